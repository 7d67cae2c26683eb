import PyProof.Rows.All
import HandS.ForMost
import HandS.ForExc
import HandS.Style
import HandS.IsInst
import HandS.FStr
import HandS.Conv
import HandS.Deep
import KE.SortData
import HandS.SetFor
import HandS.Strs
import HandS.Defaults
import HandS.HeadHook2
import HandS.ExcIs
import KE.DataFind
import HandS.ExcValue
import HandS.Text
import KE.KeyNested
import HandS.TupSets
import PyProof.InstSpecial
import HandS.Head2
import HandS.HeadEnd
import HandS.HeadHook4
import PySem.Challenge.RW_rangetexts_k14_more_errors
set_option Elab.async false
set_option linter.all false
set_option maxRecDepth 100000
set_option maxHeartbeats 4000000
namespace Rt
open PySem PySem.Spec PyProof.Rows L2

abbrev D := PyData
/-- an object that one slot alone holds -/
inductive Ob where
  | lst (ds : List D)
  | dT (kvs : List (List Int × Int))
  | dK (kvs : List (Int × Int))
  | drw (ns : List Int) (n : Int)
  | mrk (now : List Int) (past : List (List Int))
  | exc (n : Nat)
inductive Sl where
  | un | val (d : D) | own (k : Option Nat) (o : Ob)
abbrev En := List Sl
inductive R where
  | val (d : D) | own (o : Ob) | bor (i : Nat)
inductive Rs (α : Type) where
  | ok (a : α) (g : En) | exc (c : Nat) (g : En) | bad
abbrev M (α : Type) := En → Rs α
def M.ret {α : Type} (a : α) : M α := fun g => .ok a g
def M.bnd {α β : Type} (f : M α) (h : α → M β) : M β := fun g => match f g with
  | .ok a g1 => h a g1
  | .exc c g1 => .exc c g1
  | .bad => .bad
def M.bad {α : Type} : M α := fun _ => .bad
def M.ofO {α : Type} (o : Option α) : M α := fun g => match o with
  | some a => .ok a g
  | none => .bad
inductive Ow where
  | slot (i : Nat) | tmp
  deriving DecidableEq
abbrev Wm := Addr → Option Ow
structure Gc where
  G : Hp
  A : Nat → Addr
structure Kx where
  K : PySem.W.Frag
  C : Nat → Addr

/-! ### data in a frozen heap -/
mutual
inductive Dt (F : Hp) : V → D → Prop
  | non : Dt F .non .none
  | bl (b : Bool) : Dt F (.bl b) (.bool b)
  | int (i : Int) : Dt F (.int i) (.int i)
  | str (x : Str) : Dt F (.str x) (.str x)
  | lst {a : Addr} {xs : List V} {ds : List D} : F a = some (.lst xs) → DtAll F xs ds → Dt F (.ref a) (.list ds)
  | tup {a : Addr} {xs : List V} {ds : List D} : F a = some (.tup xs) → DtAll F xs ds → Dt F (.ref a) (.tuple ds)
inductive DtAll (F : Hp) : List V → List D → Prop
  | nil : DtAll F [] []
  | cons {v : V} {vs : List V} {d : D} {ds : List D} : Dt F v d → DtAll F vs ds → DtAll F (v :: vs) (d :: ds)
end
mutual
theorem Dt.mono {F F' : Hp} (h : Same F F') : ∀ {v : V} {d : D}, Dt F v d → Dt F' v d
  | _, _, .non => .non
  | _, _, .bl b => .bl b
  | _, _, .int i => .int i
  | _, _, .str x => .str x
  | _, _, .lst e r => .lst (h _ _ e) (DtAll.mono h r)
  | _, _, .tup e r => .tup (h _ _ e) (DtAll.mono h r)
theorem DtAll.mono {F F' : Hp} (h : Same F F') : ∀ {v : List V} {d : List D}, DtAll F v d → DtAll F' v d
  | _, _, .nil => .nil
  | _, _, .cons a r => .cons (Dt.mono h a) (DtAll.mono h r)
end
mutual
theorem Dt.dp {K : PySem.W.Frag} {F H : Hp} (h : Same F H) : ∀ {v : V} {d : D}, Dt F v d → Dp K H v d
  | _, _, .non => .non
  | _, _, .bl b => .bl b
  | _, _, .int i => .int i
  | _, _, .str x => .str x
  | _, _, .lst e r => .lst (SqL.of (h _ _ e)) (DtAll.dp h r)
  | _, _, .tup e r => .tup (SqT.of (h _ _ e)) (DtAll.dp h r)
theorem DtAll.dp {K : PySem.W.Frag} {F H : Hp} (h : Same F H) : ∀ {v : List V} {d : List D}, DtAll F v d → DpAll K H v d
  | _, _, .nil => .nil
  | _, _, .cons a r => .cons (Dt.dp h a) (DtAll.dp h r)
end
theorem DtAll.length {F : Hp} : ∀ {vs : List V} {ds : List D}, DtAll F vs ds → vs.length = ds.length
  | _, _, .nil => rfl
  | _, _, .cons _ r => by simp [DtAll.length r]
theorem DtAll.append {F : Hp} : ∀ {vs ws : List V} {ds es : List D}, DtAll F vs ds → DtAll F ws es → DtAll F (vs ++ ws) (ds ++ es)
  | _, _, _, _, .nil, s => s
  | _, _, _, _, .cons a r, s => .cons a (DtAll.append r s)
theorem DtAll.get {F : Hp} : ∀ {vs : List V} {ds : List D} {i : Nat} {d : D}, DtAll F vs ds → ds[i]? = some d → ∃ v, vs[i]? = some v ∧ Dt F v d
  | _, _, _, _, .nil, e => by simp at e
  | _, _, 0, _, .cons a _, e => by simp at e; subst e; exact ⟨_, rfl, a⟩
  | _, _, i + 1, d, .cons _ t, e => by
    obtain ⟨u, h1, h2⟩ := DtAll.get (i := i) (d := d) t (by simpa using e)
    exact ⟨u, by simpa using h1, h2⟩
theorem DtAll.getV {F : Hp} : ∀ {vs : List V} {ds : List D} {i : Nat} {v : V}, DtAll F vs ds → vs[i]? = some v → ∃ d, ds[i]? = some d ∧ Dt F v d
  | _, _, _, _, .nil, e => by simp at e
  | _, _, 0, _, .cons a _, e => by simp at e; subst e; exact ⟨_, rfl, a⟩
  | _, _, i + 1, d, .cons _ t, e => by
    obtain ⟨u, h1, h2⟩ := DtAll.getV (i := i) (v := d) t (by simpa using e)
    exact ⟨u, by simpa using h1, h2⟩
theorem DtAll.take {F : Hp} : ∀ {vs : List V} {ds : List D} (n : Nat), DtAll F vs ds → DtAll F (vs.take n) (ds.take n)
  | _, _, 0, _ => .nil
  | _, _, _ + 1, .nil => .nil
  | _, _, n + 1, .cons r t => .cons r (DtAll.take n t)
theorem DtAll.drop {F : Hp} : ∀ {vs : List V} {ds : List D} (n : Nat), DtAll F vs ds → DtAll F (vs.drop n) (ds.drop n)
  | _, _, 0, r => r
  | _, _, _ + 1, .nil => .nil
  | _, _, n + 1, .cons _ t => DtAll.drop n t
theorem DtAll.reverse {F : Hp} : ∀ {vs : List V} {ds : List D}, DtAll F vs ds → DtAll F vs.reverse ds.reverse
  | _, _, .nil => .nil
  | _, _, .cons a r => by
    rw [List.reverse_cons, List.reverse_cons]
    exact DtAll.append (DtAll.reverse r) (.cons a .nil)
theorem DtAll.set {F : Hp} {v : V} {d : D} (a : Dt F v d) : ∀ {vs : List V} {ds : List D} (i : Nat), DtAll F vs ds → DtAll F (vs.set i v) (ds.set i d)
  | _, _, _, .nil => .nil
  | _, _, 0, .cons _ t => .cons a t
  | _, _, i + 1, .cons q t => .cons q (DtAll.set a i t)
theorem Dt.int_of {F : Hp} {v : V} {i : Int} (h : Dt F v (.int i)) : v = .int i := by cases h; rfl
theorem Dt.str_of {F : Hp} {v : V} {i : Str} (h : Dt F v (.str i)) : v = .str i := by cases h; rfl
theorem Dt.bl_of {F : Hp} {v : V} {i : Bool} (h : Dt F v (.bool i)) : v = .bl i := by cases h; rfl
theorem Dt.non_of {F : Hp} {v : V} (h : Dt F v .none) : v = .non := by cases h; rfl
theorem Dt.tup_of {F : Hp} {v : V} {ds : List D} (h : Dt F v (.tuple ds)) : ∃ a xs, v = .ref a ∧ F a = some (.tup xs) ∧ DtAll F xs ds := by cases h; exact ⟨_, _, rfl, by assumption, by assumption⟩
theorem Dt.lst_of {F : Hp} {v : V} {ds : List D} (h : Dt F v (.list ds)) : ∃ a xs, v = .ref a ∧ F a = some (.lst xs) ∧ DtAll F xs ds := by cases h; exact ⟨_, _, rfl, by assumption, by assumption⟩
theorem DtAll.ints {F : Hp} : ∀ {ns : List Int} {vs : List V}, DtAll F vs (ns.map PyData.int) → vs = ns.map V.int
  | [], _, h => by cases h; rfl
  | n :: ns, _, h => by
    cases h with
    | cons a r => rw [Dt.int_of a, DtAll.ints r]; rfl
theorem DtAll.of_ints {F : Hp} : ∀ (ns : List Int), DtAll F (ns.map V.int) (ns.map PyData.int)
  | [] => .nil
  | n :: ns => .cons (.int n) (DtAll.of_ints ns)
theorem DtAll.strs {F : Hp} : ∀ {ns : List Str} {vs : List V}, DtAll F vs (ns.map PyData.str) → vs = ns.map V.str
  | [], _, h => by cases h; rfl
  | n :: ns, _, h => by
    cases h with
    | cons a r => rw [Dt.str_of a, DtAll.strs r]; rfl
theorem DtAll.of_strs {F : Hp} : ∀ (ns : List Str), DtAll F (ns.map V.str) (ns.map PyData.str)
  | [] => .nil
  | n :: ns => .cons (.str n) (DtAll.of_strs ns)
theorem DtAll.bools {F : Hp} : ∀ {ns : List Bool} {vs : List V}, DtAll F vs (ns.map PyData.bool) → vs = ns.map V.bl
  | [], _, h => by cases h; rfl
  | n :: ns, _, h => by
    cases h with
    | cons a r => rw [Dt.bl_of a, DtAll.bools r]; rfl

/-! ### owned objects -/
def keyT (kv : List Int × Int) : List Key × V := (kv.1.map Sum.inl, .int kv.2)
def keyI (kv : Int × Int) : Key × V := (Sum.inl kv.1, .int kv.2)
/-- a caught exception -/
def ExcO (cls : Value) (a : Addr) : HO := .ext fun h => ∃ (oe : Obj) (vs : Array Value), h.get? a = some oe ∧ Zc cls none oe ∧ oe.data = .fields vs
def OwnOk (k : Kx) (F H : Hp) (P : Addr → Prop) (p : Addr) : Ob → Prop
  | .lst ds => P p ∧ ∃ xs, H p = some (.lst xs) ∧ DtAll F xs ds
  | .dT kvs => P p ∧ H p = some (.dT (kvs.map keyT))
  | .dK kvs => P p ∧ H p = some (.dK (kvs.map keyI))
  | .drw ns n => P p ∧ ∃ q, P q ∧ q ≠ p ∧ H p = some (.lst [.ref q, .int n]) ∧ H q = some (.lst (ns.map V.int))
  | .mrk now past => P p ∧ ∃ (dx q : Addr) (vn : V) (xs : List V), P dx ∧ P q ∧ dx ≠ p ∧ q ≠ p ∧ q ≠ dx ∧ H p = some (.ins (k.C 9) dx [("now", vn), ("past", .ref q)]) ∧ H dx = some (.own p) ∧
      Dt F vn (.list (now.map PyData.int)) ∧ H q = some (.lst xs) ∧ DtAll F xs (past.map fun l => .list (l.map PyData.int))
  | .exc n => P p ∧ H p = some (ExcO (.ref (k.C n)) p)
theorem OwnOk.keep {k : Kx} {F F' H H' : Hp} {P P' : Addr → Prop} {p : Addr} {o : Ob} (x : OwnOk k F H P p o) (hf : Same F F') (hh : ∀ a, P a → P' a ∧ H' a = H a) : OwnOk k F' H' P' p o := by
  cases o with
  | lst ds => obtain ⟨h1, xs, h2, h3⟩ := x; exact ⟨(hh _ h1).1, xs, by rw [(hh _ h1).2]; exact h2, h3.mono hf⟩
  | dT kvs => obtain ⟨h1, h2⟩ := x; exact ⟨(hh _ h1).1, by rw [(hh _ h1).2]; exact h2⟩
  | dK kvs => obtain ⟨h1, h2⟩ := x; exact ⟨(hh _ h1).1, by rw [(hh _ h1).2]; exact h2⟩
  | exc n => obtain ⟨h1, h2⟩ := x; exact ⟨(hh _ h1).1, by rw [(hh _ h1).2]; exact h2⟩
  | drw ns n => obtain ⟨h1, q, h2, h3, h4, h5⟩ := x; exact ⟨(hh _ h1).1, q, (hh _ h2).1, h3, by rw [(hh _ h1).2]; exact h4, by rw [(hh _ h2).2]; exact h5⟩
  | mrk now past =>
    obtain ⟨h1, dx, q, vn, xs, h2, h3, n1, n2, n3, h4, h5, h6, h7, h8⟩ := x
    exact ⟨(hh _ h1).1, dx, q, vn, xs, (hh _ h2).1, (hh _ h3).1, n1, n2, n3, by rw [(hh _ h1).2]; exact h4, by rw [(hh _ h2).2]; exact h5, h6.mono hf, by rw [(hh _ h3).2]; exact h7, h8.mono hf⟩

/-! ### the state -/
def SlOk (k : Kx) (c : Gc) (σ : L2.St) (F : Hp) (W : Wm) (H : Hp) (i : Nat) : Sl → Prop
  | .un => True
  | .val d => ∃ v, σ[i]? = some (some v) ∧ Dt F v d
  | .own kk o => ∃ p, σ[i]? = some (some (.ref p)) ∧ (∀ j, kk = some j → p = c.A j) ∧ OwnOk k F H (fun a => W a = some (.slot i)) p o
structure SOk (k : Kx) (c : Gc) (Γ : En) (σ : L2.St) (F : Hp) (W : Wm) (H : Hp) : Prop where
  sub : Same F H
  fr : ∀ a o, c.G a = some o → H a = some o ∧ F a = none ∧ W a = none
  ow : ∀ a i, W a = some i → F a = none ∧ ∃ o, H a = some o
  sl : ∀ i s, Γ[i]? = some s → SlOk k c σ F W H i s
  len : σ.length = Γ.length
def ROk (k : Kx) (σ : L2.St) (F : Hp) (W : Wm) (H : Hp) (v : V) : R → Prop
  | .val d => Dt F v d
  | .own o => ∃ p, v = .ref p ∧ OwnOk k F H (fun a => W a = some .tmp) p o
  | .bor i => σ[i]? = some (some v)
/-- what may be read -/
def Rdy (F H : Hp) (v : V) (d : D) : Prop := Dt F v d ∨ ∃ p xs ds, v = .ref p ∧ d = .list ds ∧ H p = some (.lst xs) ∧ DtAll F xs ds
theorem Rdy.dp {K : PySem.W.Frag} {F H : Hp} {v : V} {d : D} (h : Rdy F H v d) (s : Same F H) : Dp K H v d := by
  rcases h with h | ⟨p, xs, ds, rfl, rfl, hp, r⟩
  · exact h.dp s
  · exact .lst (SqL.of hp) (r.dp s)
theorem Rdy.lst {F H : Hp} {v : V} {ds : List D} (h : Rdy F H v (.list ds)) (s : Same F H) : ∃ p xs, v = .ref p ∧ H p = some (.lst xs) ∧ DtAll F xs ds := by
  rcases h with h | ⟨p, xs, ds', rfl, e, hp, r⟩
  · obtain ⟨a, xs, rfl, e, r⟩ := h.lst_of; exact ⟨a, xs, rfl, s _ _ e, r⟩
  · cases e; exact ⟨p, xs, rfl, hp, r⟩
theorem Rdy.tup {F H : Hp} {v : V} {ds : List D} (h : Rdy F H v (.tuple ds)) (s : Same F H) : ∃ p xs, v = .ref p ∧ F p = some (.tup xs) ∧ H p = some (.tup xs) ∧ DtAll F xs ds := by
  rcases h with h | ⟨p, xs, ds', rfl, e, hp, r⟩
  · obtain ⟨a, xs, rfl, e, r⟩ := h.tup_of; exact ⟨a, xs, rfl, e, s _ _ e, r⟩
  · cases e
theorem Rdy.int {F H : Hp} {v : V} {i : Int} (h : Rdy F H v (.int i)) : v = .int i := by
  rcases h with h | ⟨p, xs, ds', rfl, e, hp, r⟩
  · exact h.int_of
  · cases e
theorem Rdy.str {F H : Hp} {v : V} {i : Str} (h : Rdy F H v (.str i)) : v = .str i := by
  rcases h with h | ⟨p, xs, ds', rfl, e, hp, r⟩
  · exact h.str_of
  · cases e
theorem Rdy.bl {F H : Hp} {v : V} {i : Bool} (h : Rdy F H v (.bool i)) : v = .bl i := by
  rcases h with h | ⟨p, xs, ds', rfl, e, hp, r⟩
  · exact h.bl_of
  · cases e
theorem Rdy.non {F H : Hp} {v : V} (h : Rdy F H v .none) : v = .non := by
  rcases h with h | ⟨p, xs, ds', rfl, e, hp, r⟩
  · exact h.non_of
  · cases e
/-- read, late -/
def obD : Ob → Option D
  | .lst ds => some (.list ds)
  | _ => none
def rdD (Γ : En) : R → Option D
  | .val d => some d
  | .own o => obD o
  | .bor i => match Γ[i]? with
    | some (.val d) => some d
    | some (.own _ o) => obD o
    | _ => none
section
variable {k : Kx} {c : Gc} {Γ : En} {σ : L2.St} {F F' : Hp} {W W' : Wm} {H H' : Hp} {v : V} {r : R} {d : D}
theorem own_rdy {P : Addr → Prop} {p : Addr} {o : Ob} (x : OwnOk k F H P p o) (e : obD o = some d) : Rdy F H (.ref p) d := by
  cases o with
  | lst ds => cases e; obtain ⟨_, xs, h2, h3⟩ := x; exact .inr ⟨p, xs, ds, rfl, rfl, h2, h3⟩
  | _ => cases e
theorem SOk.rd (s : SOk k c Γ σ F W H) (x : ROk k σ F W H v r) (e : rdD Γ r = some d) : Rdy F H v d := by
  cases r with
  | val d' => cases e; exact .inl x
  | own o => obtain ⟨p, rfl, y⟩ := x; exact own_rdy y e
  | bor i =>
    have x : σ[i]? = some (some v) := x
    simp only [rdD] at e
    split at e
    · rename_i d' hs
      cases e
      obtain ⟨u, h1, h2⟩ := s.sl i _ hs
      rw [x] at h1; cases h1
      exact .inl h2
    · rename_i kk o hs
      obtain ⟨p, h1, _, h2⟩ := s.sl i _ hs
      rw [x] at h1; cases h1
      exact own_rdy h2 e
    · cases e
theorem SlOk.keep {i : Nat} {x : Sl} (s : SlOk k c σ F W H i x) (hf : Same F F') (hh : ∀ a, W a = some (.slot i) → W' a = some (.slot i) ∧ H' a = H a) : SlOk k c σ F' W' H' i x := by
  cases x with
  | un => trivial
  | val d => obtain ⟨u, h1, h2⟩ := s; exact ⟨u, h1, h2.mono hf⟩
  | own kk o => obtain ⟨p, h1, h2, h3⟩ := s; exact ⟨p, h1, h2, h3.keep hf hh⟩
theorem SOk.step (s : SOk k c Γ σ F W H) (h1 : Same F F') (h2 : Same F' H') (h3 : ∀ a o, c.G a = some o → H' a = some o ∧ F' a = none ∧ W' a = none)
    (h4 : ∀ a i, W' a = some i → F' a = none ∧ ∃ o, H' a = some o) (h5 : ∀ a i, W a = some (.slot i) → W' a = some (.slot i) ∧ H' a = H a) : SOk k c Γ σ F' W' H' :=
  ⟨h2, h3, h4, fun i x hx => (s.sl i x hx).keep h1 fun a ha => h5 a i ha, s.len⟩
theorem Same.upd {F : Hp} {p : Addr} {o : HO} (h : F p = none) : Same F (upd F p o) := fun b u e => by
  rw [upd_ne (ne_of_none e h)]; exact e
/-- a new frozen object -/
theorem SOk.newF {p : Addr} {o : HO} (s : SOk k c Γ σ F W H) (hp : H p = none) : SOk k c Γ σ (upd F p o) W (upd H p o) ∧ Same F (upd F p o) ∧ upd F p o p = some o := by
  have fp : F p = none := s.sub.free hp
  refine ⟨s.step (Same.upd fp) ?_ ?_ ?_ ?_, Same.upd fp, upd_same⟩
  · intro b u e
    by_cases hb : b = p
    · subst hb; rw [upd_same] at e ⊢; exact e
    · rw [upd_ne hb] at e ⊢; exact s.sub b u e
  · intro a u e
    obtain ⟨h1, h2, h3⟩ := s.fr a u e
    have : a ≠ p := fun z => by rw [z, hp] at h1; cases h1
    rw [upd_ne this, upd_ne this]; exact ⟨h1, h2, h3⟩
  · intro a i e
    obtain ⟨h1, u, h2⟩ := s.ow a i e
    have : a ≠ p := fun z => by rw [z, hp] at h2; cases h2
    rw [upd_ne this, upd_ne this]; exact ⟨h1, u, h2⟩
  · intro a i e
    obtain ⟨h1, u, h2⟩ := s.ow a _ e
    have : a ≠ p := fun z => by rw [z, hp] at h2; cases h2
    rw [upd_ne this]; exact ⟨e, rfl⟩
def updW (W : Wm) (p : Addr) (x : Option Ow) : Wm := fun a => if a = p then x else W a
theorem updW_same {p : Addr} {x : Option Ow} : updW W p x p = x := by unfold updW; rw [if_pos rfl]
theorem updW_ne {p a : Addr} {x : Option Ow} (h : a ≠ p) : updW W p x a = W a := by unfold updW; rw [if_neg h]
/-- a new object of our own -/
theorem SOk.newT {p : Addr} {o : HO} (s : SOk k c Γ σ F W H) (hp : H p = none) : SOk k c Γ σ F (updW W p (some .tmp)) (upd H p o) := by
  have fp : F p = none := s.sub.free hp
  refine s.step (Same.refl F) ?_ ?_ ?_ ?_
  · intro b u e
    rw [upd_ne (ne_of_none e fp)]; exact s.sub b u e
  · intro a u e
    obtain ⟨h1, h2, h3⟩ := s.fr a u e
    have : a ≠ p := fun z => by rw [z, hp] at h1; cases h1
    rw [upd_ne this, updW_ne this]; exact ⟨h1, h2, h3⟩
  · intro a i e
    by_cases ha : a = p
    · subst ha; exact ⟨fp, o, upd_same⟩
    · rw [updW_ne ha] at e; rw [upd_ne ha]; exact s.ow a i e
  · intro a i e
    obtain ⟨h1, u, h2⟩ := s.ow a _ e
    have : a ≠ p := fun z => by rw [z, hp] at h2; cases h2
    rw [upd_ne this, updW_ne this]; exact ⟨e, rfl⟩
/-- an own new list is frozen -/
theorem SOk.freezeT {p : Addr} {o : HO} (s : SOk k c Γ σ F W H) (hw : W p = some .tmp) (hp : H p = some o) : SOk k c Γ σ (upd F p o) (updW W p none) H ∧ Same F (upd F p o) ∧ upd F p o p = some o := by
  have fp : F p = none := (s.ow p _ hw).1
  refine ⟨s.step (Same.upd fp) ?_ ?_ ?_ ?_, Same.upd fp, upd_same⟩
  · intro b u e
    by_cases hb : b = p
    · subst hb; rw [upd_same] at e; rw [← e]; exact hp
    · rw [upd_ne hb] at e; exact s.sub b u e
  · intro a u e
    obtain ⟨h1, h2, h3⟩ := s.fr a u e
    have : a ≠ p := fun z => by rw [z, hw] at h3; cases h3
    rw [upd_ne this, updW_ne this]; exact ⟨h1, h2, h3⟩
  · intro a i e
    by_cases ha : a = p
    · subst ha; rw [updW_same] at e; cases e
    · rw [updW_ne ha] at e; rw [upd_ne ha]; exact s.ow a i e
  · intro a i e
    have : a ≠ p := fun z => by rw [z, hw] at e; cases e
    rw [updW_ne this]; exact ⟨e, rfl⟩
/-- a slot's own list is frozen -/
theorem SOk.freezeS {p : Addr} {o : HO} {i : Nat} {x : Sl} (s : SOk k c Γ σ F W H) (hw : W p = some (.slot i)) (hp : H p = some o)
    (hx : SlOk k c σ (upd F p o) (updW W p none) H i x) : SOk k c (Γ.set i x) σ (upd F p o) (updW W p none) H ∧ Same F (upd F p o) := by
  have fp : F p = none := (s.ow p _ hw).1
  refine ⟨⟨?_, ?_, ?_, ?_, by simpa using s.len⟩, Same.upd fp⟩
  · intro b u e
    by_cases hb : b = p
    · subst hb; rw [upd_same] at e; rw [← e]; exact hp
    · rw [upd_ne hb] at e; exact s.sub b u e
  · intro a u e
    obtain ⟨h1, h2, h3⟩ := s.fr a u e
    have : a ≠ p := fun z => by rw [z, hw] at h3; cases h3
    rw [upd_ne this, updW_ne this]; exact ⟨h1, h2, h3⟩
  · intro a j e
    by_cases ha : a = p
    · subst ha; rw [updW_same] at e; cases e
    · rw [updW_ne ha] at e; rw [upd_ne ha]; exact s.ow a j e
  · intro j y hy
    by_cases hj : j = i
    · subst hj
      have hl : j < Γ.length := by
        have := List.getElem?_eq_some_iff.mp hy
        simpa using this.1
      rw [List.getElem?_set_self hl] at hy
      cases hy
      exact hx
    · rw [List.getElem?_set_ne (Ne.symm hj)] at hy
      refine (s.sl j y hy).keep (Same.upd fp) fun a ha => ?_
      have : a ≠ p := fun z => by rw [z, hw] at ha; cases ha; exact hj rfl
      rw [updW_ne this]; exact ⟨ha, rfl⟩
end
end Rt
namespace Rt
open PySem PySem.Spec PyProof.Rows L2

/-! ### readings -/
def Post {α β : Type} (k : Kx) (c : Gc) (σ : L2.St) (F : Hp) (E : L2.St → XK) (rel : L2.St → Hp → Wm → Hp → β → α → Prop) (res : Rs α) (Q : β → Hp → Prop) : Prop := match res with
  | .ok a Γ' => ∀ b F' W' H', SOk k c Γ' σ F' W' H' → Same F F' → rel σ F' W' H' b a → Q b H'
  | .exc n Γ' => ∀ F' W' H', SOk k c Γ' σ F' W' H' → Same F F' → E σ (.ref (k.C n)) none H'
  | .bad => False
def tM {α β : Type} (k : Kx) (rel : L2.St → Hp → Wm → Hp → β → α → Prop) (f : M α) (E : L2.St → XK) : L2.St → Hp → (β → Hp → Prop) → Prop := fun σ H Q =>
  ∃ c Γ F W, SOk k c Γ σ F W H ∧ Post k c σ F E rel (f Γ) Q
inductive RAll (k : Kx) (σ : L2.St) (F : Hp) (W : Wm) (H : Hp) : List V → List R → Prop
  | nil : RAll k σ F W H [] []
  | cons {v : V} {vs : List V} {r : R} {rs : List R} : ROk k σ F W H v r → RAll k σ F W H vs rs → RAll k σ F W H (v :: vs) (r :: rs)
abbrev relT : L2.St → Hp → Wm → Hp → Bool → Bool → Prop := fun _ _ _ _ b a => b = a
abbrev tE (k : Kx) (f : M R) (E : L2.St → XK) : TE := tM k (ROk k) f E
abbrev tT (k : Kx) (f : M Bool) (E : L2.St → XK) : TT := tM k relT f E
abbrev tA (k : Kx) (f : M (List R)) (E : L2.St → XK) : TA := tM k (RAll k) f E
section
variable {α β γ δ : Type} {k : Kx} {c : Gc} {Γ : En} {σ : L2.St} {F F1 : Hp} {W : Wm} {H : Hp} {E : L2.St → XK}
theorem Post.mono {rel : L2.St → Hp → Wm → Hp → β → α → Prop} {res : Rs α} {Q : β → Hp → Prop} (p : Post k c σ F E rel res Q) (s : Same F F1) : Post k c σ F1 E rel res Q := by
  cases res with
  | ok a g => exact fun b F' W' H' h1 h2 h3 => p b F' W' H' h1 (s.trans h2) h3
  | exc n g => exact fun F' W' H' h1 h2 => p F' W' H' h1 (s.trans h2)
  | bad => exact p
theorem Post.seq {f : M α} {g : α → M γ} {rel1 : L2.St → Hp → Wm → Hp → β → α → Prop} {rel3 : L2.St → Hp → Wm → Hp → δ → γ → Prop} {Q3 : δ → Hp → Prop} (p : Post k c σ F E rel3 (f.bnd g Γ) Q3) {Q1 : β → Hp → Prop}
    (h : ∀ a Γ1 b F1 W1 H1, SOk k c Γ1 σ F1 W1 H1 → Same F F1 → rel1 σ F1 W1 H1 b a → Post k c σ F1 E rel3 (g a Γ1) Q3 → Q1 b H1) : Post k c σ F E rel1 (f Γ) Q1 := by
  unfold M.bnd at p
  cases e : f Γ with
  | ok a g1 =>
    rw [e] at p
    exact fun b F' W' H' h1 h2 h3 => h a g1 b F' W' H' h1 h2 h3 (p.mono h2)
  | exc n g1 => rw [e] at p; exact p
  | bad => rw [e] at p; exact p
end
section
variable {X : Cx} {e : Expr}
theorem _root_.L2.PE.imp {t t' : TE} (h : PE X e t) (m : ∀ σ H Q, t' σ H Q → t σ H Q) : PE X e t' := ⟨fun pins s σ H Q I q => h.run pins s σ H Q I (m _ _ _ q)⟩
theorem _root_.L2.PT.imp {t t' : TT} (h : PT X e t) (m : ∀ σ H Q, t' σ H Q → t σ H Q) : PT X e t' := ⟨fun pins s σ H Q I q => h.run pins s σ H Q I (m _ _ _ q)⟩
theorem _root_.L2.PA.imp {es : List Expr} {t t' : TA} (h : PA X es t) (m : ∀ σ H Q, t' σ H Q → t σ H Q) : PA X es t' := ⟨fun pos pins s σ H Q I q => h.run pos pins s σ H Q I (m _ _ _ q)⟩
theorem _root_.L2.PS.imp {st : Stmt} {t t' : TS} (h : PS X st t) (m : ∀ D σ H, t' D σ H → t D σ H) : PS X st t' := ⟨fun pins s σ H D I q => h.run pins s σ H D I (m _ _ _ q)⟩
theorem _root_.L2.PSs.imp {st : List Stmt} {t t' : TS} (h : PSs X st t) (m : ∀ D σ H, t' D σ H → t D σ H) : PSs X st t' := ⟨fun pins s σ H D I q => h.run pins s σ H D I (m _ _ _ q)⟩
end

/-! ### ghost steps -/
/-- an own new list becomes frozen -/
def hold : R → M R
  | .own (.lst ds) => M.ret (.val (.list ds))
  | .own _ => M.bad
  | r => M.ret r
/-- a value that is stored somewhere: frozen -/
def stD (r : R) : M D := fun Γ => match r with
  | .val d => .ok d Γ
  | .own (.lst ds) => .ok (.list ds) Γ
  | .own _ => .bad
  | .bor i => match Γ[i]? with
    | some (.val d) => .ok d Γ
    | some (.own _ (.lst ds)) => .ok (.list ds) (Γ.set i (.val (.list ds)))
    | _ => .bad
def stR (r : R) : M R := (stD r).bnd fun d => M.ret (.val d)
section
variable {γ δ : Type} {k : Kx} {c : Gc} {Γ : En} {σ : L2.St} {F F1 : Hp} {W : Wm} {H : Hp} {E : L2.St → XK} {v : V} {r : R} {rel : L2.St → Hp → Wm → Hp → δ → γ → Prop} {Q : δ → Hp → Prop}
theorem hold_step {g : R → M γ} (so : SOk k c Γ σ F W H) (x : ROk k σ F W H v r) (p : Post k c σ F E rel ((hold r).bnd g Γ) Q) :
    ∃ r' F' W', SOk k c Γ σ F' W' H ∧ Same F F' ∧ (ROk k σ F' W' H v r' ∧ ∀ o, r' ≠ .own o) ∧ Post k c σ F' E rel (g r' Γ) Q := by
  cases r with
  | val d => exact ⟨.val d, F, W, so, Same.refl F, ⟨x, fun _ z => nomatch z⟩, p⟩
  | bor i => exact ⟨.bor i, F, W, so, Same.refl F, ⟨x, fun _ z => nomatch z⟩, p⟩
  | own o =>
    cases o with
    | lst ds =>
      obtain ⟨a, rfl, hw, xs, hp, dt⟩ := x
      obtain ⟨so', sm, fa⟩ := so.freezeT hw hp
      exact ⟨.val (.list ds), _, _, so', sm, ⟨.lst fa (dt.mono sm), fun _ z => nomatch z⟩, p.mono sm⟩
    | _ => exact p.elim
theorem st_step {g : D → M γ} (so : SOk k c Γ σ F W H) (x : ROk k σ F W H v r) (p : Post k c σ F E rel ((stD r).bnd g Γ) Q) :
    ∃ d Γ' F' W', SOk k c Γ' σ F' W' H ∧ Same F F' ∧ Dt F' v d ∧ stD r Γ = .ok d Γ' ∧ Post k c σ F' E rel (g d Γ') Q := by
  cases r with
  | val d => exact ⟨d, Γ, F, W, so, Same.refl F, x, rfl, p⟩
  | own o =>
    cases o with
    | lst ds =>
      obtain ⟨a, rfl, hw, xs, hp, dt⟩ := x
      obtain ⟨so', sm, fa⟩ := so.freezeT hw hp
      exact ⟨_, Γ, _, _, so', sm, .lst fa (dt.mono sm), rfl, p.mono sm⟩
    | _ => exact p.elim
  | bor i =>
    have x : σ[i]? = some (some v) := x
    unfold M.bnd at p
    simp only [stD] at p ⊢
    split at p
    · rename_i d Γ1 hs
      split at hs
      · rename_i d' hg
        cases hs
        obtain ⟨u, h1, h2⟩ := so.sl i _ hg
        rw [x] at h1; cases h1
        exact ⟨d, Γ, F, W, so, Same.refl F, h2, rfl, p⟩
      · rename_i kk ds hg
        cases hs
        obtain ⟨q, h1, _, hw, xs, hq, dt⟩ := so.sl i _ hg
        rw [x] at h1; cases h1
        have fq : F q = none := (so.ow q _ hw).1
        obtain ⟨so', sm⟩ := so.freezeS (x := .val (.list ds)) hw hq ⟨_, x, .lst upd_same (dt.mono (Same.upd fq))⟩
        exact ⟨_, _, _, _, so', sm, .lst upd_same (dt.mono sm), rfl, p.mono sm⟩
      · cases hs
    · exact absurd p (by
        rename_i hs
        split at hs <;> cases hs)
    · exact p.elim
end

/-! ### expressions -/
section
variable {X : Cx} {k : Kx} {E : L2.St → XK} {pos p : Pos} {e a b : Expr} {fa fb : M R}
def eVar (i : Nat) : M R := fun Γ => match Γ[i]? with
  | some (.val _) => .ok (.bor i) Γ
  | some (.own _ _) => .ok (.bor i) Γ
  | _ => .bad
theorem se_var {t : TE} {i : Nat} (h : PE X e t) (ht : t = tVar i) : PE X e (tE k (eVar i) E) := by
  subst ht
  refine h.imp fun σ H Q ⟨c, Γ, F, W, so, po⟩ => ?_
  simp only [eVar] at po
  split at po
  · rename_i d hg
    obtain ⟨u, h1, h2⟩ := so.sl i _ hg
    exact ⟨u, h1, po u F W H so (Same.refl F) h1⟩
  · rename_i d hg
    obtain ⟨u, h1, h2⟩ := so.sl i _ hg
    exact ⟨_, h1, po _ F W H so (Same.refl F) h1⟩
  · exact po.elim
/-- the name in slot i -/
theorem sv (i : Nat) {x : Str} {pos : Pos} (hN : X.N[i]? = some x := by rfl) (hv : Vis X.env.scope x := by first | exact Or.inl rfl | exact Or.inr (Or.inl rfl) | exact Or.inr (Or.inr rfl)) (hd : (x == ("__debug__" : Str)) = false := by decide)
    (hcd : (x == ("__classdict__" : Str)) = false := by decide) : PE X (.Name x pos) (tE k (eVar i) E) := se_var (pe_var hN hv hd hcd) rfl
def eC (d : D) : M R := M.ret (.val d)
theorem se_c {v : V} {d : D} (h : PE X e (tC v)) (hd : ∀ F, Dt F v d) : PE X e (tE k (eC d) E) := h.imp fun σ H Q ⟨c, Γ, F, W, so, po⟩ => po v F W H so (Same.refl F) (hd F)
theorem se_int {i j pos} : PE X (.Constant (.int i) j pos) (tE k (eC (.int i)) E) := se_c pe_int fun _ => .int i
theorem se_bl {i j pos} : PE X (.Constant (.bool i) j pos) (tE k (eC (.bool i)) E) := se_c pe_bl fun _ => .bl i
theorem se_non {j pos} : PE X (.Constant .none j pos) (tE k (eC .none) E) := se_c pe_non fun _ => .non
theorem se_str {x j pos} : PE X (.Constant (.str x) j pos) (tE k (eC (.str x)) E) := se_c pe_str fun _ => .str x
theorem se_gInt {x : Str} {i : Int} {t : Tok} (hg : Gl X x) (hm : X.mg x = some (.int i t)) (hd : (x == ("__debug__" : Str)) = false := by decide) : PE X (.Name x p) (tE k (eC (.int i)) E) := se_c (pe_glob (v := .int i) hg hm ⟨t, rfl⟩ hd) fun _ => .int i
theorem se_gStr {x : Str} {i : Str} {t : Tok} (hg : Gl X x) (hm : X.mg x = some (.str i t)) (hd : (x == ("__debug__" : Str)) = false := by decide) : PE X (.Name x p) (tE k (eC (.str i)) E) := se_c (pe_glob (v := .str i) hg hm ⟨t, rfl⟩ hd) fun _ => .str i
/-- stored -/
def sto (f : M R) : M R := f.bnd stR
theorem se_sto {f : M R} (h : PE X e (tE k f E)) : PE X e (tE k (sto f) E) := h.imp fun σ H Q ⟨c, Γ, F, W, so, po⟩ =>
  ⟨c, Γ, F, W, so, po.seq fun r Γ1 v F1 W1 H1 so1 sm1 r1 po1 => by
    obtain ⟨d, Γ2, F2, W2, so2, sm2, dt, _, po2⟩ := st_step so1 r1 po1
    exact po2 v F2 W2 H1 so2 (Same.refl F2) dt⟩
/-! arguments -/
def aNil : M (List R) := M.ret []
def aCons (f : M R) (fs : M (List R)) : M (List R) := f.bnd fun r => (hold r).bnd fun r => fs.bnd fun rs => M.ret (r :: rs)
/-- the last one as it comes -/
def aLast (f : M R) : M (List R) := f.bnd fun r => M.ret [r]
theorem sa_nil : PA X [] (tA k aNil E) := pa_nil.imp fun σ H Q ⟨c, Γ, F, W, so, po⟩ => po [] F W H so (Same.refl F) .nil
theorem ROk.keep {σ : L2.St} {F F' : Hp} {W W' : Wm} {H H' : Hp} {v : V} {r : R} (x : ROk k σ F W H v r) (hn : ∀ o, r ≠ .own o) (s : Same F F') : ROk k σ F' W' H' v r := by
  cases r with
  | val d => exact Dt.mono s x
  | own o => exact absurd rfl (hn o)
  | bor i => exact x
theorem sa_cons {es : List Expr} {f : M R} {fs : M (List R)} (h : PE X e (tE k f E)) (hr : PA X es (tA k fs E)) (hs : starEach (e :: es) X.env = (false, eval e X.env) :: starEach es X.env := by rfl) : PA X (e :: es) (tA k (aCons f fs) E) :=
  (pa_cons h hr hs).imp fun σ H Q ⟨c, Γ, F, W, so, po⟩ => ⟨c, Γ, F, W, so, po.seq fun r Γ1 v F1 W1 H1 so1 sm1 r1 po1 => by
    obtain ⟨r', F2, W2, so2, sm2, ⟨r2, hn⟩, po2⟩ := hold_step so1 r1 po1
    exact ⟨c, Γ1, F2, W2, so2, po2.seq fun rs Γ3 vs F3 W3 H3 so3 sm3 r3 po3 => po3 (v :: vs) F3 W3 H3 so3 (Same.refl F3) (.cons (r2.keep hn sm3) r3)⟩⟩
theorem sa_last {f : M R} (h : PE X e (tE k f E)) (hs : starEach [e] X.env = (false, eval e X.env) :: starEach [] X.env := by rfl) : PA X [e] (tA k (aLast f) E) :=
  (pa_cons h pa_nil hs).imp fun σ H Q ⟨c, Γ, F, W, so, po⟩ => ⟨c, Γ, F, W, so, po.seq fun r Γ1 v F1 W1 H1 so1 sm1 r1 po1 => po1 [v] F1 W1 H1 so1 (Same.refl F1) (.cons r1 .nil)⟩
def rdAll (Γ : En) : List R → Option (List D)
  | [] => some []
  | r :: rs => match rdD Γ r, rdAll Γ rs with
    | some d, some ds => some (d :: ds)
    | _, _ => none
inductive RdyAll (F H : Hp) : List V → List D → Prop
  | nil : RdyAll F H [] []
  | cons {v : V} {vs : List V} {d : D} {ds : List D} : Rdy F H v d → RdyAll F H vs ds → RdyAll F H (v :: vs) (d :: ds)
theorem SOk.rdA {c : Gc} {Γ : En} {σ : L2.St} {F : Hp} {W : Wm} {H : Hp} (s : SOk k c Γ σ F W H) : ∀ {vs : List V} {rs : List R} {ds : List D}, RAll k σ F W H vs rs → rdAll Γ rs = some ds → RdyAll F H vs ds
  | _, _, _, .nil, e => by cases e; exact .nil
  | _, _, _, .cons a t, e => by
    simp only [rdAll] at e
    split at e
    · rename_i h1 h2
      cases e
      exact .cons (s.rd a h1) (s.rdA t h2)
    · cases e
/-! what an operation on values gives, in readings -/
def Fin (k : Kx) (res : R) (Q : VK) (H : Hp) (F : Hp) (c : Gc) (Γ : En) (σ : L2.St) : Prop := ∀ v F' W' H', SOk k c Γ σ F' W' H' → Same F F' → ROk k σ F' W' H' v res → Q v H'
def OpS (k : Kx) (r : R2) (dop : D → D → Option R) : Prop := ∀ c Γ σ F W H x y da db res Q, SOk k c Γ σ F W H → Rdy F H x da → Rdy F H y db → dop da db = some res → Fin k res Q H F c Γ σ → r x y H Q
def CallS (k : Kx) (r : List V → Hp → VK → Prop) (dc : List D → Option R) : Prop := ∀ c Γ σ F W H xs ds res Q, SOk k c Γ σ F W H → RdyAll F H xs ds → dc ds = some res → Fin k res Q H F c Γ σ → r xs H Q
def un1 (dop : D → Option R) (r : R) : M R := fun Γ => match rdD Γ r with
  | some d => (match dop d with
    | some x => .ok x Γ
    | none => .bad)
  | none => .bad
def op2 (dop : D → D → Option R) (ra rb : R) : M R := fun Γ => match rdD Γ ra, rdD Γ rb with
  | some a, some b => (match dop a b with
    | some r => .ok r Γ
    | none => .bad)
  | _, _ => .bad
def bin (dop : D → D → Option R) (fa fb : M R) : M R := fa.bnd fun ra => (hold ra).bnd fun ra => fb.bnd fun rb => op2 dop ra rb
theorem op2_ok {dop : D → D → Option R} {ra rb : R} {c : Gc} {Γ : En} {σ : L2.St} {F : Hp} {W : Wm} {H : Hp} {x y : V} {Q : VK} {r : R2} (hs : OpS k r dop) (so : SOk k c Γ σ F W H) (hx : ROk k σ F W H x ra) (hy : ROk k σ F W H y rb)
    (po : Post k c σ F E (ROk k) (op2 dop ra rb Γ) Q) : r x y H Q := by
  unfold op2 at po
  split at po
  · rename_i da db h1 h2
    split at po
    · rename_i res h3
      exact hs c Γ σ F W H x y da db res Q so (so.rd hx h1) (so.rd hy h2) h3 po
    · exact po.elim
  · exact po.elim
theorem bin_ok {dop : D → D → Option R} {r : R2} (hs : OpS k r dop) : ∀ σ H Q, tE k (bin dop fa fb) E σ H Q → tOp r (tE k fa E) (tE k fb E) σ H Q := fun σ H Q ⟨c, Γ, F, W, so, po⟩ =>
  ⟨c, Γ, F, W, so, po.seq fun ra Γ1 x F1 W1 H1 so1 sm1 r1 po1 => by
    obtain ⟨ra', F2, W2, so2, sm2, ⟨r2, hn⟩, po2⟩ := hold_step so1 r1 po1
    exact ⟨c, Γ1, F2, W2, so2, po2.seq fun rb Γ3 y F3 W3 H3 so3 sm3 r3 po3 => op2_ok hs so3 (r2.keep hn sm3) r3 po3⟩⟩
theorem se_op {op : Operator} {r : R2} {dop : D → D → Option R} (ho : OpR X (binaryOp op) r) (hs : OpS k r dop) (ha : PE X a (tE k fa E)) (hb : PE X b (tE k fb E)) : PE X (.BinOp a op b pos) (tE k (bin dop fa fb) E) :=
  (pe_op ho ha hb).imp (bin_ok hs)
theorem se_cmp {op : CmpOp} {r : R2} {dop : D → D → Option R} (ho : OpR X (compareOp op) r) (hs : OpS k r dop) (ha : PE X a (tE k fa E)) (hb : PE X b (tE k fb E)) (hm : behindInMarks op b = false) : PE X (.Compare a [op] [b] pos) (tE k (bin dop fa fb) E) :=
  (pe_cmpR ho ha hb hm).imp (bin_ok hs)
/-- a bool as a test -/
def tst (f : M R) : M Bool := f.bnd fun r Γ => match rdD Γ r with
  | some (.bool b) => .ok b Γ
  | _ => .bad
theorem tst_ok {f : M R} : ∀ σ H Q, tT k (tst f) E σ H Q → tTest (tE k f E) σ H Q := fun σ H Q ⟨c, Γ, F, W, so, po⟩ => ⟨c, Γ, F, W, so, po.seq fun r Γ1 x F1 W1 H1 so1 sm1 r1 po1 => by
    split at po1
    · rename_i b hb
      exact ⟨b, (so1.rd r1 hb).bl, po1 b F1 W1 H1 so1 (Same.refl F1) rfl⟩
    · exact po1.elim⟩
theorem st_cmp {op : CmpOp} {r : R2} {dop : D → D → Option R} (ho : OpR X (compareOp op) r) (hs : OpS k r dop) (ha : PE X a (tE k fa E)) (hb : PE X b (tE k fb E)) (hm : behindInMarks op b = false) : PT X (.Compare a [op] [b] pos) (tT k (tst (bin dop fa fb)) E) :=
  (pt_cmpR ho ha hb hm).imp fun σ H Q h => by
    obtain ⟨c, Γ, F, W, so, po⟩ := tst_ok σ H Q h
    exact bin_ok hs σ H _ ⟨c, Γ, F, W, so, po⟩
theorem st_val {f : M R} (h : PE X e (tE k f E)) (he : ∀ whole, isTrue e X.env whole = (do let v ← whole; standAt e.pos; holding [v] (truthy v)) := by intro _; rfl) : PT X e (tT k (tst f) E) := (pt_val h he).imp tst_ok
/-! and, or, not -/
def mAnd (f g : M Bool) : M Bool := f.bnd fun b => if b = true then g else M.ret false
def mOr (f g : M Bool) : M Bool := f.bnd fun b => if b = true then M.ret true else g
def mNot (f : M Bool) : M Bool := f.bnd fun b => M.ret (!b)
variable {rest : List Expr} {ta tb : M Bool}
theorem _root_.L2.PW.imp {t t' : TT} (h : PW X e t) (m : ∀ σ H Q, t' σ H Q → t σ H Q) : PW X e t' := ⟨fun w pins s σ H Q I q => h.run w pins s σ H Q I (m _ _ _ q)⟩
theorem sw_and (ha : PT X a (tT k ta E)) (hb : PW X (.BoolOp .And (b :: rest) pos) (tT k tb E)) : PW X (.BoolOp .And (a :: b :: rest) pos) (tT k (mAnd ta tb) E) :=
  (pw_and ha hb).imp fun σ H Q ⟨c, Γ, F, W, so, po⟩ => ⟨c, Γ, F, W, so, po.seq fun r Γ1 x F1 W1 H1 so1 sm1 r1 po1 => by
    subst r1
    cases x with
    | true => exact ⟨c, Γ1, F1, W1, so1, po1⟩
    | false => exact po1 false F1 W1 H1 so1 (Same.refl F1) rfl⟩
theorem sw_or (ha : PT X a (tT k ta E)) (hb : PW X (.BoolOp .Or (b :: rest) pos) (tT k tb E)) : PW X (.BoolOp .Or (a :: b :: rest) pos) (tT k (mOr ta tb) E) :=
  (pw_or ha hb).imp fun σ H Q ⟨c, Γ, F, W, so, po⟩ => ⟨c, Γ, F, W, so, po.seq fun r Γ1 x F1 W1 H1 so1 sm1 r1 po1 => by
    subst r1
    cases x with
    | false => exact ⟨c, Γ1, F1, W1, so1, po1⟩
    | true => exact po1 true F1 W1 H1 so1 (Same.refl F1) rfl⟩
theorem st_not (ha : PT X a (tT k ta E)) : PT X (.UnaryOp .Not a pos) (tT k (mNot ta) E) :=
  (pt_not ha).imp fun σ H Q ⟨c, Γ, F, W, so, po⟩ => ⟨c, Γ, F, W, so, po.seq fun r Γ1 x F1 W1 H1 so1 sm1 r1 po1 => by
    subst r1
    exact po1 (!x) F1 W1 H1 so1 (Same.refl F1) rfl⟩
/-- as values: bools -/
def vAnd (f g : M R) : M R := (tst f).bnd fun b => if b = true then g else M.ret (.val (.bool false))
def vOr (f g : M R) : M R := (tst f).bnd fun b => if b = true then M.ret (.val (.bool true)) else g
def vNot (f : M R) : M R := (tst f).bnd fun b => M.ret (.val (.bool (!b)))
theorem tstB {f : M R} {σ : L2.St} {H : Hp} {Q : VK} {γ : Type} {rel : L2.St → Hp → Wm → Hp → V → γ → Prop} {g : Bool → M γ} {c : Gc} {Γ : En} {F : Hp} {W : Wm} (so : SOk k c Γ σ F W H) {Q3 : VK} (po : Post k c σ F E rel ((tst f).bnd g Γ) Q3)
    (h : ∀ b Γ1 F1 W1 H1, SOk k c Γ1 σ F1 W1 H1 → Post k c σ F1 E rel (g b Γ1) Q3 → Q (.bl b) H1) : tE k f E σ H Q := by
  have : (tst f).bnd g = f.bnd fun r => M.bnd (fun Γ => match rdD Γ r with | some (.bool b) => .ok b Γ | _ => .bad) g := by
    funext Γ
    simp only [tst, M.bnd]
    cases f Γ <;> rfl
  rw [this] at po
  refine ⟨c, Γ, F, W, so, po.seq fun r Γ1 x F1 W1 H1 so1 sm1 r1 po1 => ?_⟩
  unfold M.bnd at po1
  simp only at po1
  split at po1
  · rename_i b g1 hb
    split at hb
    · rename_i b' hb'
      cases hb
      rw [(so1.rd r1 hb').bl]
      exact h b Γ1 F1 W1 H1 so1 po1
    · cases hb
  · rename_i hb
    split at hb <;> cases hb
  · exact po1.elim
theorem se_one {op} {f : M R} (h : PE X a (tE k f E)) : PE X (.BoolOp op [a] pos) (tE k f E) := pe_one h
theorem se_and (ha : PE X a (tE k fa E)) (hb : PE X (.BoolOp .And (b :: rest) pos) (tE k fb E)) : PE X (.BoolOp .And (a :: b :: rest) pos) (tE k (vAnd fa fb) E) :=
  (pe_and ha hb).imp fun σ H Q ⟨c, Γ, F, W, so, po⟩ => tstB so po fun b Γ1 F1 W1 H1 so1 po1 => ⟨b, rfl, by
    cases b with
    | true => exact ⟨c, Γ1, F1, W1, so1, po1⟩
    | false => exact po1 _ F1 W1 H1 so1 (Same.refl F1) (.bl false)⟩
theorem se_or (ha : PE X a (tE k fa E)) (hb : PE X (.BoolOp .Or (b :: rest) pos) (tE k fb E)) : PE X (.BoolOp .Or (a :: b :: rest) pos) (tE k (vOr fa fb) E) :=
  (pe_or ha hb).imp fun σ H Q ⟨c, Γ, F, W, so, po⟩ => tstB so po fun b Γ1 F1 W1 H1 so1 po1 => ⟨b, rfl, by
    cases b with
    | false => exact ⟨c, Γ1, F1, W1, so1, po1⟩
    | true => exact po1 _ F1 W1 H1 so1 (Same.refl F1) (.bl true)⟩
theorem se_not (ha : PE X a (tE k fa E)) : PE X (.UnaryOp .Not a pos) (tE k (vNot fa) E) :=
  (pe_not ha).imp fun σ H Q ⟨c, Γ, F, W, so, po⟩ => tstB so po fun b Γ1 F1 W1 H1 so1 po1 => ⟨b, rfl, po1 _ F1 W1 H1 so1 (Same.refl F1) (.bl _)⟩
def vIf (t : M Bool) (f g : M R) : M R := t.bnd fun b => if b = true then f else g
theorem se_if {q : Expr} (hc : PT X q (tT k ta E)) (ha : PE X a (tE k fa E)) (hb : PE X b (tE k fb E)) : PE X (.IfExp q a b pos) (tE k (vIf ta fa fb) E) :=
  (pe_ifExp hc ha hb).imp fun σ H Q ⟨c, Γ, F, W, so, po⟩ => ⟨c, Γ, F, W, so, po.seq fun r Γ1 x F1 W1 H1 so1 sm1 r1 po1 => by
    subst r1
    cases x with
    | true => exact ⟨c, Γ1, F1, W1, so1, po1⟩
    | false => exact ⟨c, Γ1, F1, W1, so1, po1⟩⟩
/-! displays -/
def valsOf : List R → Option (List D)
  | [] => some []
  | .val d :: rs => (valsOf rs).map (d :: ·)
  | _ :: _ => none
theorem RAll.vals {σ : L2.St} {F : Hp} {W : Wm} {H : Hp} : ∀ {vs : List V} {rs : List R} {ds : List D}, RAll k σ F W H vs rs → valsOf rs = some ds → DtAll F vs ds
  | _, _, _, .nil, e => by cases e; exact .nil
  | _, r :: rs, ds, .cons a t, e => by
    cases r with
    | val d =>
      simp only [valsOf, Option.map_eq_some_iff] at e
      obtain ⟨ds', e1, rfl⟩ := e
      exact .cons a (t.vals e1)
    | own o => cases e
    | bor i => cases e
def mkTup (fs : M (List R)) : M R := fs.bnd fun rs => M.ofO (match valsOf rs with
  | some ds => if ds.length ≤ 1000000 then some (.val (.tuple ds)) else none
  | none => none)
def mkLst (fs : M (List R)) : M R := fs.bnd fun rs => M.ofO (match valsOf rs with
  | some ds => if ds.length ≤ 1000000 then some (.own (.lst ds)) else none
  | none => none)
theorem mil {n : Nat} (h : n ≤ 1000000) : n ≤ sizeLine := by rw [sizeLine_eq]; omega
theorem newLst {c : Gc} {Γ : En} {σ : L2.St} {F : Hp} {W : Wm} {H : Hp} {xs : List V} {ds : List D} {Q : VK} (so : SOk k c Γ σ F W H) (dt : DtAll F xs ds) (f : Fin k (.own (.lst ds)) Q H F c Γ σ) : ∀ p, H p = none → Q (.ref p) (upd H p (.lst xs)) := fun p hp =>
  f _ F _ _ (so.newT hp) (Same.refl F) ⟨p, rfl, updW_same, xs, upd_same, dt⟩
theorem newTup {c : Gc} {Γ : En} {σ : L2.St} {F : Hp} {W : Wm} {H : Hp} {xs : List V} {ds : List D} {Q : VK} (so : SOk k c Γ σ F W H) (dt : DtAll F xs ds) (f : Fin k (.val (.tuple ds)) Q H F c Γ σ) : ∀ p, H p = none → Q (.ref p) (upd H p (.tup xs)) := fun p hp => by
  obtain ⟨so', sm, e⟩ := so.newF (o := .tup xs) hp
  exact f _ _ _ _ so' sm (.tup e (dt.mono sm))
theorem se_tup {es : List Expr} {fs : M (List R)} {x1} (h : PA X es (tA k fs E)) : PE X (.Tuple es x1 pos) (tE k (mkTup fs) E) :=
  (pe_tup h).imp fun σ H Q ⟨c, Γ, F, W, so, po⟩ => ⟨c, Γ, F, W, so, po.seq fun rs Γ1 xs F1 W1 H1 so1 sm1 r1 po1 => by
    unfold M.ofO at po1
    split at po1
    · rename_i r hr
      split at hr
      · rename_i ds hv
        split at hr
        · rename_i hz
          cases hr
          have dt := r1.vals hv
          exact ⟨by rw [dt.length]; exact mil hz, newTup so1 dt po1⟩
        · cases hr
      · cases hr
    · exact po1.elim⟩
theorem se_lst {es : List Expr} {fs : M (List R)} (h : PA X es (tA k fs E)) : PE X (.List es pos) (tE k (mkLst fs) E) :=
  (pe_lst h).imp fun σ H Q ⟨c, Γ, F, W, so, po⟩ => ⟨c, Γ, F, W, so, po.seq fun rs Γ1 xs F1 W1 H1 so1 sm1 r1 po1 => by
    unfold M.ofO at po1
    split at po1
    · rename_i r hr
      split at hr
      · rename_i ds hv
        split at hr
        · rename_i hz
          cases hr
          have dt := r1.vals hv
          exact ⟨by rw [dt.length]; exact mil hz, newLst so1 dt po1⟩
        · cases hr
      · cases hr
    · exact po1.elim⟩
/-! built-ins by name -/
def callD (dc : List D → Option R) (fs : M (List R)) : M R := fs.bnd fun rs Γ => match rdAll Γ rs with
  | some ds => (match dc ds with
    | some r => .ok r Γ
    | none => .bad)
  | none => .bad
theorem callD_ok {dc : List D → Option R} {fs : M (List R)} {r : List V → Hp → VK → Prop} (hs : CallS k r dc) : ∀ σ H Q, tE k (callD dc fs) E σ H Q → tCB r (tA k fs E) σ H Q := fun σ H Q ⟨c, Γ, F, W, so, po⟩ =>
  ⟨c, Γ, F, W, so, po.seq fun rs Γ1 xs F1 W1 H1 so1 sm1 r1 po1 => by
    split at po1
    · rename_i ds hd
      split at po1
      · rename_i res hr
        exact hs c Γ1 σ F1 W1 H1 xs ds res Q so1 (so1.rdA r1 hd) hr po1
      · exact po1.elim
    · exact po1.elim⟩
end
end Rt
namespace Rt
open PySem PySem.Spec PyProof.Rows L2

inductive Fl where
  | nx | brk | cnt | ret (r : R)
def PostS (k : Kx) (c : Gc) (F : Hp) (E : L2.St → XK) (res : Rs Fl) (D : Ends) : Prop := match res with
  | .ok .nx Γ' => ∀ σ' F' W' H', SOk k c Γ' σ' F' W' H' → Same F F' → D.nx σ' H'
  | .ok .brk Γ' => ∀ σ' F' W' H', SOk k c Γ' σ' F' W' H' → Same F F' → D.bk σ' H'
  | .ok .cnt Γ' => ∀ σ' F' W' H', SOk k c Γ' σ' F' W' H' → Same F F' → D.ct σ' H'
  | .ok (.ret r) Γ' => ∀ v σ' F' W' H', SOk k c Γ' σ' F' W' H' → Same F F' → ROk k σ' F' W' H' v r → D.rt v H'
  | .exc n Γ' => ∀ σ' F' W' H', SOk k c Γ' σ' F' W' H' → Same F F' → E σ' (.ref (k.C n)) none H'
  | .bad => False
def tS (k : Kx) (f : M Fl) (E : L2.St → XK) : TS := fun D σ H => ∃ c Γ F W, SOk k c Γ σ F W H ∧ PostS k c F E (f Γ) D
section
variable {α β : Type} {k : Kx} {c : Gc} {Γ : En} {σ : L2.St} {F F1 : Hp} {W : Wm} {H : Hp} {E : L2.St → XK} {D : Ends}
theorem PostS.mono {res : Rs Fl} (p : PostS k c F E res D) (s : Same F F1) : PostS k c F1 E res D := by
  cases res with
  | ok a g =>
    cases a with
    | ret r => exact fun v σ' F' W' H' h1 h2 h3 => p v σ' F' W' H' h1 (s.trans h2) h3
    | _ => exact fun σ' F' W' H' h1 h2 => p σ' F' W' H' h1 (s.trans h2)
  | exc n g => exact fun σ' F' W' H' h1 h2 => p σ' F' W' H' h1 (s.trans h2)
  | bad => exact p
theorem PostS.seqE {f : M α} {g : α → M Fl} {rel1 : L2.St → Hp → Wm → Hp → β → α → Prop} (p : PostS k c F E (f.bnd g Γ) D) {Q1 : β → Hp → Prop}
    (h : ∀ a Γ1 b F1 W1 H1, SOk k c Γ1 σ F1 W1 H1 → Same F F1 → rel1 σ F1 W1 H1 b a → PostS k c F1 E (g a Γ1) D → Q1 b H1) : Post k c σ F E rel1 (f Γ) Q1 := by
  unfold M.bnd at p
  cases e : f Γ with
  | ok a g1 =>
    rw [e] at p
    exact fun b F' W' H' h1 h2 h3 => h a g1 b F' W' H' h1 h2 h3 (p.mono h2)
  | exc n g1 => rw [e] at p; exact fun F' W' H' h1 h2 => p σ F' W' H' h1 h2
  | bad => rw [e] at p; exact p
end
/-! ### ghost steps of statements -/
/-- a value leaves the frame -/
def mvR (r : R) : M R := fun Γ => match r with
  | .bor i => (match Γ[i]? with
    | some (.val d) => .ok (.val d) Γ
    | some (.own _ o) => .ok (.own o) (Γ.set i .un)
    | _ => .bad)
  | r => .ok r Γ
/-- name := value -/
def asgR (i : Nat) (r : R) : M Unit := fun Γ => if i < Γ.length then (match r with
  | .val d => .ok () (Γ.set i (.val d))
  | .own o => .ok () (Γ.set i (.own none o))
  | .bor j => (match Γ[j]? with
    | some (.val d) => .ok () (Γ.set i (.val d))
    | some (.own _ (.lst ds)) => if j = i then .ok () Γ else .ok () ((Γ.set j (.val (.list ds))).set i (.val (.list ds)))
    | _ => .bad)) else .bad
section
variable {k : Kx} {c : Gc} {Γ Γ' : En} {σ : L2.St} {F F1 : Hp} {W : Wm} {H : Hp} {E : L2.St → XK} {v : V} {r : R}
theorem SOk.relabel {p q : Ow} (so : SOk k c Γ σ F W H) (Γ' : En) (σ' : L2.St) (hl : σ'.length = Γ'.length) (hs : ∀ i s, Γ'[i]? = some s → SlOk k c σ' F (fun a => if W a = some p then some q else W a) H i s) :
    SOk k c Γ' σ' F (fun a => if W a = some p then some q else W a) H := by
  refine ⟨so.sub, fun a o e => ?_, fun a i e => ?_, hs, hl⟩
  · obtain ⟨h1, h2, h3⟩ := so.fr a o e
    exact ⟨h1, h2, by rw [h3]; rfl⟩
  · split at e
    · rename_i hw; exact so.ow a _ hw
    · exact so.ow a _ e
theorem set_cases {α : Type} {l : List α} {i j : Nat} {x y : α} (h : (l.set i x)[j]? = some y) : (j = i ∧ y = x) ∨ (j ≠ i ∧ l[j]? = some y) := by
  by_cases hj : j = i
  · subst hj
    have hl : j < l.length := by
      have := (List.getElem?_eq_some_iff.mp h).1
      simpa using this
    rw [List.getElem?_set_self hl] at h
    exact .inl ⟨rfl, (Option.some.inj h).symm⟩
  · rw [List.getElem?_set_ne (Ne.symm hj)] at h
    exact .inr ⟨hj, h⟩
theorem mv_step (so : SOk k c Γ σ F W H) (x : ROk k σ F W H v r) {r' : R} (e : mvR r Γ = .ok r' Γ') : ∃ W', SOk k c Γ' σ F W' H ∧ ROk k σ F W' H v r' := by
  cases r with
  | val d => cases e; exact ⟨W, so, x⟩
  | own o => cases e; exact ⟨W, so, x⟩
  | bor i =>
    have x : σ[i]? = some (some v) := x
    simp only [mvR] at e
    split at e
    · rename_i d hg
      cases e
      obtain ⟨u, h1, h2⟩ := so.sl i _ hg
      rw [x] at h1; cases h1
      exact ⟨W, so, h2⟩
    · rename_i kk o hg
      cases e
      obtain ⟨q, h1, _, ow⟩ := so.sl i _ hg
      rw [x] at h1; cases h1
      refine ⟨_, so.relabel (p := .slot i) (q := .tmp) _ σ (by simpa using so.len) fun j s hj => ?_, q, rfl, ow.keep (Same.refl F) fun a ha => ⟨if_pos ha, rfl⟩⟩
      rcases set_cases hj with ⟨rfl, rfl⟩ | ⟨hne, hj⟩
      · trivial
      · refine (so.sl j s hj).keep (Same.refl F) fun a ha => ⟨?_, rfl⟩
        rw [if_neg]
        · exact ha
        · intro z; rw [ha] at z; cases z; exact hne rfl
    · cases e
theorem SlOk.set {i j : Nat} {s : Sl} {F' : Hp} {W' : Wm} {H' : Hp} (hne : j ≠ i) (h : SlOk k c σ F W H j s) : SlOk k c (σ.set i (some v)) F W H j s := by
  cases s with
  | un => trivial
  | val d => obtain ⟨u, h1, h2⟩ := h; exact ⟨u, by rw [List.getElem?_set_ne (Ne.symm hne)]; exact h1, h2⟩
  | own kk o => obtain ⟨u, h1, h2⟩ := h; exact ⟨u, by rw [List.getElem?_set_ne (Ne.symm hne)]; exact h1, h2⟩
/-- a frozen value is stored at slot i -/
theorem SOk.setV {i : Nat} {d : D} (so : SOk k c Γ σ F W H) (x : Dt F v d) (hi : i < Γ.length) : SOk k c (Γ.set i (.val d)) (σ.set i (some v)) F W H := by
  refine ⟨so.sub, so.fr, so.ow, fun j s hj => ?_, by simpa using so.len⟩
  rcases set_cases hj with ⟨rfl, rfl⟩ | ⟨hne, hj⟩
  · exact ⟨v, by rw [List.getElem?_set_self (by rw [so.len]; exact hi)], x⟩
  · exact SlOk.set (F' := F) (W' := W) (H' := H) hne (so.sl j s hj)
theorem asg_step {i : Nat} (so : SOk k c Γ σ F W H) (x : ROk k σ F W H v r) (e : asgR i r Γ = .ok () Γ') : ∃ F' W', SOk k c Γ' (σ.set i (some v)) F' W' H ∧ Same F F' := by
  unfold asgR at e
  split at e
  · rename_i hi
    have hiσ : i < σ.length := by rw [so.len]; exact hi
    split at e
    · rename_i d
      cases e
      exact ⟨F, W, so.setV x hi, Same.refl F⟩
    · rename_i o
      cases e
      obtain ⟨q, rfl, ow⟩ := x
      refine ⟨F, _, so.relabel (p := .tmp) (q := .slot i) _ _ (by simpa using so.len) fun j s hj => ?_, Same.refl F⟩
      rcases set_cases hj with ⟨rfl, rfl⟩ | ⟨hne, hj⟩
      · exact ⟨q, by rw [List.getElem?_set_self hiσ], (fun j z => by cases z), ow.keep (Same.refl F) fun a ha => ⟨if_pos ha, rfl⟩⟩
      · refine SlOk.set (F' := F) (W' := W) (H' := H) hne ((so.sl j s hj).keep (Same.refl F) fun a ha => ⟨?_, rfl⟩)
        rw [if_neg]
        · exact ha
        · intro z; rw [ha] at z; cases z
    · rename_i j
      have x : σ[j]? = some (some v) := x
      split at e
      · rename_i d hg
        cases e
        obtain ⟨u, h1, h2⟩ := so.sl j _ hg
        rw [x] at h1; cases h1
        exact ⟨F, W, so.setV h2 hi, Same.refl F⟩
      · rename_i kk ds hg
        obtain ⟨q, h1, _, hw, xs, hq, dt⟩ := so.sl j _ hg
        rw [x] at h1; cases h1
        split at e
        · rename_i hji
          cases e
          subst hji
          refine ⟨F, W, ?_, Same.refl F⟩
          have : σ.set j (some (.ref q)) = σ := by
            apply List.ext_getElem?
            intro m
            by_cases hm : m = j
            · subst hm; rw [List.getElem?_set_self hiσ]; exact x.symm
            · rw [List.getElem?_set_ne (Ne.symm hm)]
          rw [this]; exact so
        · cases e
          have fq : F q = none := (so.ow q _ hw).1
          obtain ⟨so', sm⟩ := so.freezeS (x := .val (.list ds)) hw hq ⟨_, x, .lst upd_same (dt.mono (Same.upd fq))⟩
          exact ⟨_, _, so'.setV (v := .ref q) (.lst upd_same (dt.mono sm)) (by simpa using hi), sm⟩
      · cases e
  · cases e
end
/-! ### statements -/
def sRet (f : M R) : M Fl := f.bnd fun r => (mvR r).bnd fun r => M.ret (.ret r)
def sAsg (i : Nat) (f : M R) : M Fl := f.bnd fun r => (asgR i r).bnd fun _ => M.ret .nx
def sDrop (f : M R) : M Fl := f.bnd fun _ => M.ret .nx
def sIf (t : M Bool) (f g : M Fl) : M Fl := t.bnd fun b => if b = true then f else g
def sSeq (f g : M Fl) : M Fl := f.bnd fun x => match x with
  | .nx => g
  | x => M.ret x
def sNx : M Fl := M.ret .nx
section
variable {X : Cx} {k : Kx} {E : L2.St → XK} {pos : Pos} {e : Expr} {st : Stmt} {rest : List Stmt} {f g : M Fl} {h : M R} {t : M Bool}
theorem ss_nil : PSs X [] (tS k sNx E) := pss_nil.imp fun D σ H ⟨c, Γ, F, W, so, po⟩ => po σ F W H so (Same.refl F)
theorem ss_one (h1 : PS X st (tS k f E)) : PSs X [st] (tS k f E) := pss_one h1
theorem ss_cons (h1 : PS X st (tS k f E)) (h2 : PSs X rest (tS k g E)) : PSs X (st :: rest) (tS k (sSeq f g) E) :=
  (pss_cons h1 h2).imp fun D σ H ⟨c, Γ, F, W, so, po⟩ => ⟨c, Γ, F, W, so, by
    unfold sSeq M.bnd at po
    cases e : f Γ with
    | ok x g1 =>
      rw [e] at po
      cases x with
      | nx => exact fun σ' F' W' H' h1 h2 => ⟨c, g1, F', W', h1, po.mono h2⟩
      | _ => exact po
    | exc n g1 => rw [e] at po; exact po
    | bad => rw [e] at po; exact po⟩
theorem ps_pass' : PS X (.Pass pos) (tS k sNx E) := ps_pass.imp fun D σ H ⟨c, Γ, F, W, so, po⟩ => po σ F W H so (Same.refl F)
theorem ss_ret (he : PE X e (tE k h E)) : PS X (.Return (some e) pos) (tS k (sRet h) E) :=
  (ps_ret he).imp fun D σ H ⟨c, Γ, F, W, so, po⟩ => ⟨c, Γ, F, W, so, po.seqE fun r Γ1 v F1 W1 H1 so1 sm1 r1 po1 => by
    unfold M.bnd at po1
    cases e : mvR r Γ1 with
    | ok r' g1 =>
      rw [e] at po1
      obtain ⟨W', so2, r2⟩ := mv_step so1 r1 e
      exact po1 v σ F1 W' H1 so2 (Same.refl F1) r2
    | exc n g1 =>
      exfalso
      unfold mvR at e
      split at e
      · split at e <;> cases e
      · cases e
    | bad => rw [e] at po1; exact po1.elim⟩
theorem ss_set {i : Nat} {x : Str} {pos' : Pos} (hN : X.N.Nodup) (hi : X.N[i]? = some x) (hx : Loc X.env.scope x) (he : PE X e (tE k h E)) (hs : swapsWith e (some (.Name x pos')) pos.line X.env = pure false := by rfl)
    (hf : X.fn x = true ∨ X.env.scope.names.lookup x = some .local := by first | exact .inl rfl | exact .inr rfl | assumption) : PS X (.Assign [.Name x pos'] e pos) (tS k (sAsg i h) E) :=
  (ps_set (i := i) hN hi hx he hs hf).imp fun D σ H ⟨c, Γ, F, W, so, po⟩ => ⟨c, Γ, F, W, so, po.seqE fun r Γ1 v F1 W1 H1 so1 sm1 r1 po1 => by
    unfold M.bnd at po1
    cases e : asgR i r Γ1 with
    | ok r' g1 =>
      rw [e] at po1
      obtain ⟨F', W', so2, sm2⟩ := asg_step so1 r1 e
      exact po1 _ F' W' H1 so2 sm2
    | exc n g1 =>
      exfalso
      unfold asgR at e
      split at e
      · split at e
        · cases e
        · cases e
        · split at e
          · cases e
          · split at e <;> cases e
          · cases e
      · cases e
    | bad => rw [e] at po1; exact po1.elim⟩
theorem ss_drop (he : PE X e (tE k h E)) (hs : swapsWith e none pos.line X.env = pure false := by rfl) : PS X (.Expr e pos) (tS k (sDrop h) E) :=
  (ps_expr he hs).imp fun D σ H ⟨c, Γ, F, W, so, po⟩ => ⟨c, Γ, F, W, so, po.seqE fun r Γ1 v F1 W1 H1 so1 sm1 r1 po1 => po1 σ F1 W1 H1 so1 (Same.refl F1)⟩
theorem ss_if {q : Expr} {a b : List Stmt} (hc : PT X q (tT k t E)) (ha : PSs X a (tS k f E)) (hb : PSs X b (tS k g E)) : PS X (.If q a b pos) (tS k (sIf t f g) E) :=
  (ps_if hc ha hb).imp fun D σ H ⟨c, Γ, F, W, so, po⟩ => ⟨c, Γ, F, W, so, po.seqE fun r Γ1 x F1 W1 H1 so1 sm1 r1 po1 => by
    subst r1
    cases x with
    | true => exact ⟨c, Γ1, F1, W1, so1, po1⟩
    | false => exact ⟨c, Γ1, F1, W1, so1, po1⟩⟩
theorem ss_never : PS X st (tS k M.bad E) := ps_never.imp fun D σ H ⟨c, Γ, F, W, so, po⟩ => po.elim
/-! ### while -/
def sWhile (t : M Bool) (b : M Fl) : Nat → M Fl
  | 0 => M.bad
  | n + 1 => t.bnd fun x => if x = true then (b.bnd fun fl => match fl with
    | .nx => sWhile t b n
    | .cnt => sWhile t b n
    | .brk => M.ret .nx
    | .ret r => M.ret (.ret r)) else M.ret .nx
theorem ss_while {q : Expr} {body : List Stmt} {n : Nat} (hp : PassesOwn (model X.prog X.w) X.A X.env X.xe) (hc : PT X q (tT k t E)) (hb : PSs X body (tS k f E)) : PS X (.While q body [] pos) (tS k (sWhile t f n) E) :=
  (ps_while hp hc hb).imp fun D σ H ⟨c, Γ, F, W, so, po⟩ => by
    refine ⟨fun m σ H => ∃ Γ F' W, SOk k c Γ σ F' W H ∧ Same F F' ∧ PostS k c F' E (sWhile t f m Γ) D, ⟨n, Γ, F, W, so, Same.refl F, po⟩, ?_⟩
    rintro m σ H ⟨Γ, F0, W, so, sm0, po⟩
    cases m with
    | zero => exact po.elim
    | succ m =>
      refine ⟨c, Γ, F0, W, so, PostS.seqE po fun x Γ1 b F1 W1 H1 so1 sm1 r1 po1 => ?_⟩
      subst r1
      cases b with
      | false => exact iteF (po1 σ F1 W1 H1 so1 (Same.refl F1))
      | true =>
        refine iteT ⟨fun σ' H' => ∃ Γ F' W, SOk k c Γ σ' F' W H' ∧ Same F F' ∧ PostS k c F' E (sWhile t f m Γ) D, fun σ' H' h' => ⟨m, Nat.lt_succ_self m, h'⟩, c, Γ1, F1, W1, so1, ?_⟩
        have po1 : PostS k c F1 E (M.bnd f (fun fl => match fl with
          | .nx => sWhile t f m
          | .cnt => sWhile t f m
          | .brk => M.ret .nx
          | .ret r => M.ret (.ret r)) Γ1) D := po1
        unfold M.bnd at po1
        cases e : f Γ1 with
        | ok x g1 =>
          rw [e] at po1
          cases x with
          | nx => exact fun σ' F' W' H' h1 h2 => ⟨g1, F', W', h1, (sm0.trans sm1).trans h2, po1.mono h2⟩
          | cnt => exact fun σ' F' W' H' h1 h2 => ⟨g1, F', W', h1, (sm0.trans sm1).trans h2, po1.mono h2⟩
          | brk => exact po1
          | ret r => exact po1
        | exc n g1 => rw [e] at po1; exact po1
        | bad => rw [e] at po1; exact po1
end
/-! ### targets -/
abbrev Tg := D → En → Option En
def TgS (k : Kx) (g : TG) (tg : Tg) (vs : List Nat) : Prop := ∀ c Γ σ F W H v d Γ' Q, SOk k c Γ σ F W H → Dt F v d → tg d Γ = some Γ' →
  (∀ σ', SOk k c Γ' σ' F W H → (∀ j, j ∉ vs → σ'[j]? = σ[j]?) → σ'.length = σ.length → Q σ' H) → g v σ H Q
def tgN (i : Nat) : Tg := fun d Γ => if i < Γ.length then some (Γ.set i (.val d)) else none
def tgNs : List Nat → List D → En → Option En
  | [], [], Γ => some Γ
  | i :: is, d :: ds, Γ => (tgN i d Γ).bind (tgNs is ds)
  | _, _, _ => none
def tgT (is : List Nat) : Tg := fun d Γ => match d with
  | .tuple ds => tgNs is ds Γ
  | _ => none
theorem tg_name {k : Kx} {i : Nat} : TgS k (gName i) (tgN i) [i] := fun c Γ σ F W H v d Γ' Q so dt e hQ => by
  unfold tgN at e
  split at e
  · rename_i hi
    cases e
    exact hQ _ (so.setV dt hi) (fun j hj => by rw [List.getElem?_set_ne]; intro z; exact hj (by simp [z])) (by simp)
  · cases e
def gNs : List Nat → TGs
  | [] => gNil
  | i :: is => gCons (gName i) (gNs is)
theorem tgNs_ok {k : Kx} {c : Gc} {F : Hp} {W : Wm} {H : Hp} : ∀ {is : List Nat} {ds : List D} {xs : List V} {Γ Γ' : En} {σ : L2.St} {Q : L2.St → Hp → Prop}, SOk k c Γ σ F W H → DtAll F xs ds → tgNs is ds Γ = some Γ' →
    (∀ σ', SOk k c Γ' σ' F W H → (∀ j, j ∉ is → σ'[j]? = σ[j]?) → σ'.length = σ.length → Q σ' H) → gNs is xs σ H Q
  | [], [], _, Γ, Γ', σ, Q, so, .nil, e, hQ => by cases e; exact ⟨rfl, hQ σ so (fun _ _ => rfl) rfl⟩
  | [], d :: ds, _, Γ, Γ', σ, Q, so, r, e, hQ => by cases e
  | i :: is, [], _, Γ, Γ', σ, Q, so, r, e, hQ => by cases e
  | i :: is, d :: ds, _, Γ, Γ', σ, Q, so, .cons a r, e, hQ => by
    simp only [tgNs, Option.bind_eq_some_iff] at e
    obtain ⟨Γ1, e1, e2⟩ := e
    refine ⟨_, _, rfl, tg_name c Γ σ F W H _ d Γ1 _ so a e1 fun σ1 so1 h1 l1 => ?_⟩
    exact tgNs_ok so1 r e2 fun σ' so' h' l' => hQ σ' so' (fun j hj => (h' j (fun z => hj (List.mem_cons_of_mem _ z))).trans (h1 j (fun z => hj (by
      have : j = i := by simpa using z
      simp [this])))) (l'.trans l1)
theorem tg_tup {k : Kx} {is : List Nat} {n : Nat} (hn : is.length = n) : TgS k (gTup k.K n (gNs is)) (tgT is) is := fun c Γ σ F W H v d Γ' Q so dt e hQ => by
  cases d with
  | tuple ds =>
    obtain ⟨a, xs, rfl, fa, r⟩ := dt.tup_of
    have hl : ∀ {is : List Nat} {ds : List D} {Γ Γ' : En}, tgNs is ds Γ = some Γ' → ds.length = is.length := by
      intro is
      induction is with
      | nil => intro ds Γ Γ' e; cases ds with
        | nil => rfl
        | cons _ _ => cases e
      | cons i is ih => intro ds Γ Γ' e; cases ds with
        | nil => cases e
        | cons d ds =>
          simp only [tgNs, Option.bind_eq_some_iff] at e
          obtain ⟨Γ1, e1, e2⟩ := e
          simp [ih e2]
    have e' : tgNs is ds Γ = some Γ' := e
    exact ⟨a, xs, rfl, SqT.of (so.sub _ _ fa), by rw [r.length, hl e', hn], tgNs_ok so r e' hQ⟩
  | _ => cases e
end Rt
namespace Rt
open PySem PySem.Spec PyProof.Rows L2

/-! ### what is walked -/
structure ItS (k : Kx) (J : It) (F1 : Hp) (ds : List D) : Prop where
  go : ∀ i F H, Same F1 F → Same F H → i < ds.length → J.go i H
  yld : ∀ i c Γ σ F W H x H', SOk k c Γ σ F W H → Same F1 F → J.yld i H x H' → i < ds.length → ∃ F' d, SOk k c Γ σ F' W H' ∧ Same F F' ∧ ds[i]? = some d ∧ Dt F' x d
  stop : ∀ F H, Same F1 F → Same F H → J.stop ds.length H
abbrev relI (k : Kx) : L2.St → Hp → Wm → Hp → It → List D → Prop := fun _ F _ _ J ds => ItS k J F ds
abbrev tI (k : Kx) (f : M (List D)) (E : L2.St → XK) : TI := tM k (relI k) f E
section
variable {k : Kx} {F : Hp}
theorem itS_list {a : Addr} {xs : List V} {ds : List D} (h : F a = some (.lst xs)) (dt : DtAll F xs ds) : ItS k (Itl k.K a) F ds where
  go := fun i F' H s1 s2 hi => by
    have : i < xs.length := by rw [dt.length]; exact hi
    exact ⟨xs, xs[i], SqL.of (s2 _ _ (s1 _ _ h)), by simp [this]⟩
  yld := fun i c Γ σ F' W H x H' so s1 y hi => by
    obtain ⟨rfl, y⟩ := y
    have e := y xs (SqL.of (so.sub _ _ (s1 _ _ h)))
    obtain ⟨d, e1, e2⟩ := dt.getV e
    exact ⟨F', d, so, Same.refl _, e1, e2.mono s1⟩
  stop := fun F' H s1 s2 => ⟨xs, SqL.of (s2 _ _ (s1 _ _ h)), by rw [dt.length]; exact Nat.le_refl _⟩
theorem itS_tup {a : Addr} {xs : List V} {ds : List D} (h : F a = some (.tup xs)) (dt : DtAll F xs ds) : ItS k (Itt k.K a) F ds where
  go := fun i F' H s1 s2 hi => by
    have : i < xs.length := by rw [dt.length]; exact hi
    exact ⟨xs, xs[i], SqT.of (s2 _ _ (s1 _ _ h)), by simp [this]⟩
  yld := fun i c Γ σ F' W H x H' so s1 y hi => by
    obtain ⟨rfl, y⟩ := y
    have e := y xs (SqT.of (so.sub _ _ (s1 _ _ h)))
    obtain ⟨d, e1, e2⟩ := dt.getV e
    exact ⟨F', d, so, Same.refl _, e1, e2.mono s1⟩
  stop := fun F' H s1 s2 => ⟨xs, SqT.of (s2 _ _ (s1 _ _ h)), by rw [dt.length]; exact Nat.le_refl _⟩
def chrD (c : Nat) : D := .str ⟨#[c]⟩
theorem itS_str (z : Str) : ItS k (Its z) F (z.cps.toList.map chrD) where
  go := fun i F' H s1 s2 hi => by
    have : i < z.cps.size := by simpa using hi
    exact this
  yld := fun i c Γ σ F' W H x H' so s1 y hi => by
    obtain ⟨rfl, ch, e, rfl⟩ := y
    exact ⟨F', chrD ch, so, Same.refl _, by simp [List.getElem?_map, e], .str _⟩
  stop := fun F' H s1 s2 => by simp [Its]
def rngL (lo : Int) (n : Nat) : List D := (List.range n).map fun i => .int (lo + (i : Nat))
theorem itS_range (lo : Int) (n : Nat) : ItS k (Itr lo n) F (rngL lo n) where
  go := fun i F' H s1 s2 hi => by
    have : i < n := by simpa [rngL] using hi
    exact this
  yld := fun i c Γ σ F' W H x H' so s1 y hi => by
    obtain ⟨rfl, rfl⟩ := y
    have hi' : i < n := by simpa [rngL] using hi
    exact ⟨F', .int (lo + i), so, Same.refl _, by simp [rngL, hi'], .int _⟩
  stop := fun F' H s1 s2 => by simp [rngL, Itr]
def enumL (ds : List D) : List D := (List.range ds.length).zipWith (fun i d => .tuple [.int (i : Nat), d]) ds
theorem itS_enum {a : Addr} {xs : List V} {ds : List D} (h : F a = some (.lst xs)) (dt : DtAll F xs ds) : ItS k (Ite k.K a) F (enumL ds) where
  go := fun i F' H s1 s2 hi => by
    have : i < xs.length := by rw [dt.length]; simpa [enumL] using hi
    exact ⟨xs, xs[i], SqL.of (s2 _ _ (s1 _ _ h)), by simp [this]⟩
  yld := fun i c Γ σ F' W H x H' so s1 y hi => by
    obtain ⟨T, x0, rfl, hT, rfl, y⟩ := y
    have e := y xs (SqL.of (so.sub _ _ (s1 _ _ h)))
    obtain ⟨d, e1, e2⟩ := dt.getV e
    obtain ⟨so', sm, e3⟩ := so.newF (o := .tup [.int (i : Nat), x0]) hT
    refine ⟨_, .tuple [.int (i : Nat), d], so', sm, ?_, .tup e3 (.cons (.int _) (.cons (e2.mono (s1.trans sm)) .nil))⟩
    have hl : i < ds.length := by simpa [enumL] using hi
    simp only [enumL, List.getElem?_zipWith, e1, List.getElem?_range hl]
  stop := fun F' H s1 s2 => ⟨xs, SqL.of (s2 _ _ (s1 _ _ h)), by rw [dt.length]; simp [enumL]⟩
def zipL (ds es : List D) : List D := List.zipWith (fun d e => .tuple [d, e]) ds es
theorem itS_zip {a b : Addr} {xs ys : List V} {ds es : List D} (h : F a = some (.lst xs)) (dt : DtAll F xs ds) (h' : F b = some (.lst ys)) (dt' : DtAll F ys es) : ItS k (Itz k.K a b) F (zipL ds es) where
  go := fun i F' H s1 s2 hi => by
    have : i < xs.length ∧ i < ys.length := by rw [dt.length, dt'.length]; simpa [zipL, Nat.lt_min] using hi
    exact ⟨xs, ys, xs[i], ys[i], SqL.of (s2 _ _ (s1 _ _ h)), SqL.of (s2 _ _ (s1 _ _ h')), by simp [this.1], by simp [this.2]⟩
  yld := fun i c Γ σ F' W H x H' so s1 y hi => by
    obtain ⟨T, x0, y0, rfl, hT, rfl, y, y'⟩ := y
    have e := y xs (SqL.of (so.sub _ _ (s1 _ _ h)))
    have e' := y' ys (SqL.of (so.sub _ _ (s1 _ _ h')))
    obtain ⟨d, e1, e2⟩ := dt.getV e
    obtain ⟨d', e1', e2'⟩ := dt'.getV e'
    obtain ⟨so', sm, e3⟩ := so.newF (o := .tup [x0, y0]) hT
    refine ⟨_, .tuple [d, d'], so', sm, ?_, .tup e3 (.cons (e2.mono (s1.trans sm)) (.cons (e2'.mono (s1.trans sm)) .nil))⟩
    simp [zipL, List.getElem?_zipWith, e1, e1']
  stop := fun F' H s1 s2 => ⟨xs, ys, SqL.of (s2 _ _ (s1 _ _ h)), SqL.of (s2 _ _ (s1 _ _ h')), by rw [dt.length, dt'.length]; simp [zipL]; omega⟩
end
section
variable {X : Cx} {tg : Expr} {k : Kx} {E : L2.St → XK}
theorem _root_.L2.PI.imp {it : Expr} {t t' : TI} (h : PI X tg it t) (m : ∀ σ H Q, t' σ H Q → t σ H Q) : PI X tg it t' := ⟨fun pins s σ H Q I q => h.run pins s σ H Q I (m _ _ _ q)⟩
/-- a list, a tuple, a text -/
def itemsD : D → Option (List D)
  | .list ds => some ds
  | .tuple ds => some ds
  | .str z => some (z.cps.toList.map chrD)
  | _ => none
def iSq (f : M R) : M (List D) := f.bnd fun r => (stD r).bnd fun d => M.ofO (itemsD d)
/-- by kind -/
def kL : D → Option (List D)
  | .list ds => some ds
  | _ => none
def kT : D → Option (List D)
  | .tuple ds => some ds
  | _ => none
def kS : D → Option (List D)
  | .str z => some (z.cps.toList.map chrD)
  | _ => none
def iSqK (q : D → Option (List D)) (f : M R) : M (List D) := f.bnd fun r => (stD r).bnd fun d => M.ofO (q d)
theorem iSq_kinds (f : M R) (Γ : En) : iSq f Γ = iSqK kL f Γ ∨ iSq f Γ = iSqK kT f Γ ∨ iSq f Γ = iSqK kS f Γ := by
  unfold iSq iSqK M.bnd
  cases f Γ with
  | bad => exact .inl rfl
  | exc n g => exact .inl rfl
  | ok r g =>
    dsimp only
    cases stD r g with
    | bad => exact .inl rfl
    | exc n g => exact .inl rfl
    | ok d g' => cases d <;> first | exact .inl rfl | exact .inr (.inl rfl) | exact .inr (.inr rfl)
theorem si_kL {l : Expr} {f : M R} (hk : X.K = k.K) (hl : PE X l (tE k f E)) : PI X tg l (tI k (iSqK kL f) E) :=
  (pi_list hl).imp fun σ H R ⟨c, Γ, F, W, so, po⟩ => ⟨c, Γ, F, W, so, po.seq fun r Γ1 v F1 W1 H1 so1 sm1 r1 po1 => by
    obtain ⟨d, Γ2, F2, W2, so2, sm2, dt, _, po2⟩ := st_step so1 r1 po1
    unfold M.ofO at po2
    split at po2
    · rename_i ds hd
      cases dt with
      | lst ha dt => cases hd; rw [hk]; exact ⟨_, rfl, ⟨_, SqL.of (so2.sub _ _ ha)⟩, po2 _ F2 W2 H1 so2 (Same.refl F2) (itS_list ha dt)⟩
      | _ => cases hd
    · exact po2.elim⟩
theorem si_kT {l : Expr} {f : M R} (hk : X.K = k.K) (hl : PE X l (tE k f E)) : PI X tg l (tI k (iSqK kT f) E) :=
  (pi_tup hl).imp fun σ H R ⟨c, Γ, F, W, so, po⟩ => ⟨c, Γ, F, W, so, po.seq fun r Γ1 v F1 W1 H1 so1 sm1 r1 po1 => by
    obtain ⟨d, Γ2, F2, W2, so2, sm2, dt, _, po2⟩ := st_step so1 r1 po1
    unfold M.ofO at po2
    split at po2
    · rename_i ds hd
      cases dt with
      | tup ha dt => cases hd; rw [hk]; exact ⟨_, rfl, ⟨_, SqT.of (so2.sub _ _ ha)⟩, po2 _ F2 W2 H1 so2 (Same.refl F2) (itS_tup ha dt)⟩
      | _ => cases hd
    · exact po2.elim⟩
theorem si_kS {l : Expr} {f : M R} (hl : PE X l (tE k f E)) : PI X tg l (tI k (iSqK kS f) E) :=
  (pi_str hl).imp fun σ H R ⟨c, Γ, F, W, so, po⟩ => ⟨c, Γ, F, W, so, po.seq fun r Γ1 v F1 W1 H1 so1 sm1 r1 po1 => by
    obtain ⟨d, Γ2, F2, W2, so2, sm2, dt, _, po2⟩ := st_step so1 r1 po1
    unfold M.ofO at po2
    split at po2
    · rename_i ds hd
      cases dt with
      | str z => cases hd; exact ⟨_, rfl, po2 _ F2 W2 H1 so2 (Same.refl F2) (itS_str z)⟩
      | _ => cases hd
    · exact po2.elim⟩
theorem si_seq {l : Expr} {f : M R} (hk : X.K = k.K) (hl : PE X l (tE k f E)) : PI X tg l (tI k (iSq f) E) := ⟨fun pins s σ H Q I ⟨c, Γ, F, W, so, po⟩ => by
  rcases iSq_kinds f Γ with h | h | h <;> rw [h] at po
  · exact (si_kL hk hl).run pins s σ H Q I ⟨c, Γ, F, W, so, po⟩
  · exact (si_kT hk hl).run pins s σ H Q I ⟨c, Γ, F, W, so, po⟩
  · exact (si_kS hl).run pins s σ H Q I ⟨c, Γ, F, W, so, po⟩⟩
def small62 (i : Int) : Bool := decide (-1000000000 ≤ i) && decide (i < 1000000000)
def rg1 : List D → Option (List D)
  | [.int j] => if small62 j then some (rngL 0 j.toNat) else none
  | _ => none
def rg2 : List D → Option (List D)
  | [.int i, .int j] => if small62 i && small62 j then some (rngL i (j - i).toNat) else none
  | _ => none
def iRg (g : List D → Option (List D)) (fs : M (List R)) : M (List D) := fs.bnd fun rs Γ => match rdAll Γ rs with
  | some ds => (match g ds with
    | some l => .ok l Γ
    | none => .bad)
  | none => .bad
theorem rdy1 {F H : Hp} {vs : List V} {i : Int} (h : RdyAll F H vs [.int i]) : vs = [.int i] := by
  cases h with | cons a t => cases t; rw [a.int]
theorem rdy2 {F H : Hp} {vs : List V} {i j : Int} (h : RdyAll F H vs [.int i, .int j]) : vs = [.int i, .int j] := by
  cases h with | cons a t => cases t with | cons b t => cases t; rw [a.int, b.int]
theorem rdy3 {F H : Hp} {vs : List V} {i j l : Int} (h : RdyAll F H vs [.int i, .int j, .int l]) : vs = [.int i, .int j, .int l] := by
  cases h with | cons a t => cases t with | cons b t => cases t with | cons b' t => cases t; rw [a.int, b.int, b'.int]
theorem small62_ok {i : Int} (h : small62 i = true) : -(2 ^ 62) ≤ i ∧ i < 2 ^ 62 := by
  simp only [small62, Bool.and_eq_true, decide_eq_true_eq] at h
  omega
theorem si_range1 {a : Expr} {fs : M (List R)} {p pos : Pos} (hg : Gl X "range") (hm : X.mg "range" = none) (ha : PA X [a] (tA k fs E)) (hs : starEach [a] X.env = [(false, eval a X.env)] := by rfl) : PI X tg (.Call (.Name "range" p) [a] [] pos) (tI k (iRg rg1 fs) E) :=
  (pi_range1 hg hm ha hs).imp fun σ H Q ⟨c, Γ, F, W, so, po⟩ => ⟨c, Γ, F, W, so, po.seq fun rs Γ1 xs F1 W1 H1 so1 sm1 r1 po1 => by
    split at po1
    · rename_i ds hd
      split at po1
      · rename_i l hl
        unfold rg1 at hl
        split at hl
        · rename_i j
          split at hl
          · rename_i hz
            cases hl
            obtain ⟨z1, z2⟩ := small62_ok hz
            exact ⟨j, rdy1 (so1.rdA r1 hd), z1, z2, po1 _ F1 W1 H1 so1 (Same.refl F1) (itS_range 0 j.toNat)⟩
          · cases hl
        · cases hl
      · exact po1.elim
    · exact po1.elim⟩
theorem si_range2 {a b : Expr} {fs : M (List R)} {p pos : Pos} (hg : Gl X "range") (hm : X.mg "range" = none) (ha : PA X [a, b] (tA k fs E)) (hs : starEach [a, b] X.env = [(false, eval a X.env), (false, eval b X.env)] := by rfl) (hs2 : starEach [b] X.env = [(false, eval b X.env)] := by rfl) :
    PI X tg (.Call (.Name "range" p) [a, b] [] pos) (tI k (iRg rg2 fs) E) :=
  (pi_range2 hg hm ha hs hs2).imp fun σ H Q ⟨c, Γ, F, W, so, po⟩ => ⟨c, Γ, F, W, so, po.seq fun rs Γ1 xs F1 W1 H1 so1 sm1 r1 po1 => by
    split at po1
    · rename_i ds hd
      split at po1
      · rename_i l hl
        unfold rg2 at hl
        split at hl
        · rename_i i j
          split at hl
          · rename_i hz
            cases hl
            obtain ⟨hz1, hz2⟩ := Bool.and_eq_true_iff.mp hz
            obtain ⟨z1, z2⟩ := small62_ok hz1
            obtain ⟨z3, z4⟩ := small62_ok hz2
            exact ⟨i, j, rdy2 (so1.rdA r1 hd), ⟨z1, z2, z3, z4⟩, po1 _ F1 W1 H1 so1 (Same.refl F1) (itS_range i (j - i).toNat)⟩
          · cases hl
        · cases hl
      · exact po1.elim
    · exact po1.elim⟩
/-- enumerate(e), zip(e, e2): the lists frozen -/
def iEn (f : M R) : M (List D) := f.bnd fun r => (stD r).bnd fun d => M.ofO (match d with
  | .list ds => some (enumL ds)
  | _ => none)
theorem si_enum {e : Expr} {f : M R} {p pos tpos : Pos} {elts : List Expr} {kk : Nat} (hk : X.K = k.K) (hg : Gl X "enumerate") (hm : X.mg "enumerate" = none) (he : PE X e (tE k f E)) (hs : starEach [e] X.env = [(false, eval e X.env)] := by rfl) (hs1 : starEach [e] X.env = (false, eval e X.env) :: starEach [] X.env := by rfl) :
    PI X (.Tuple elts kk tpos) (.Call (.Name "enumerate" p) [e] [] pos) (tI k (iEn f) E) :=
  (pi_enum hg hm (pa_cons he pa_nil hs1) hs).imp fun σ H Q ⟨c, Γ, F, W, so, po⟩ => ⟨c, Γ, F, W, so, po.seq fun r Γ1 v F1 W1 H1 so1 sm1 r1 po1 => by
    obtain ⟨d, Γ2, F2, W2, so2, sm2, dt, _, po2⟩ := st_step so1 r1 po1
    unfold M.ofO at po2
    split at po2
    · rename_i ds hd
      cases dt with
      | lst ha dt => cases hd; rw [hk]; exact ⟨_, _, rfl, SqL.of (so2.sub _ _ ha), po2 _ F2 W2 H1 so2 (Same.refl F2) (itS_enum ha dt)⟩
      | _ => cases hd
    · exact po2.elim⟩
def iZp (f g : M R) : M (List D) := f.bnd fun r => (stD r).bnd fun d => g.bnd fun r' => (stD r').bnd fun d' => M.ofO (match d, d' with
  | .list ds, .list es => some (zipL ds es)
  | _, _ => none)
theorem si_zip {e e2 : Expr} {f g : M R} {p pos tpos : Pos} {elts : List Expr} {kk : Nat} (hk : X.K = k.K) (hg : Gl X "zip") (hm : X.mg "zip" = none) (he : PE X e (tE k f E)) (he2 : PE X e2 (tE k g E))
    (hs : starEach [e, e2] X.env = (false, eval e X.env) :: starEach [e2] X.env := by rfl) (hpl : (backTo pos (starEach [e2] X.env)).any (·.1) = false := by rfl) (hs2 : starEach [e2] X.env = (false, eval e2 X.env) :: starEach [] X.env := by rfl) :
    PI X (.Tuple elts kk tpos) (.Call (.Name "zip" p) [e, e2] [] pos) (tI k (iZp f g) E) :=
  (pi_zip hg hm (pa_cons he (pa_cons he2 pa_nil hs2) hs) hs hpl).imp fun σ H Q ⟨c, Γ, F, W, so, po⟩ => ⟨c, Γ, F, W, so, po.seq fun r Γ1 v F1 W1 H1 so1 sm1 r1 po1 => by
    obtain ⟨d, Γ2, F2, W2, so2, sm2, dt, _, po2⟩ := st_step so1 r1 po1
    refine ⟨c, Γ2, F2, W2, so2, po2.seq fun r Γ3 v' F3 W3 H3 so3 sm3 r3 po3 => ?_⟩
    obtain ⟨d', Γ4, F4, W4, so4, sm4, dt', _, po4⟩ := st_step so3 r3 po3
    unfold M.ofO at po4
    have dt1 := dt.mono (sm3.trans sm4)
    split at po4
    · rename_i ds hd
      cases d with
      | list xs =>
        cases d' with
        | list ys =>
          cases hd
          obtain ⟨a, xs', rfl, ha, dta⟩ := dt1.lst_of
          obtain ⟨b, ys', rfl, hb, dtb⟩ := dt'.lst_of
          rw [hk]
          exact ⟨_, _, _, _, rfl, SqL.of (so4.sub _ _ ha), SqL.of (so4.sub _ _ hb), po4 _ F4 W4 H3 so4 (Same.refl F4) (itS_zip ha dta hb dtb)⟩
        | _ => cases hd
      | _ => cases hd
    · exact po4.elim⟩
end

/-! ### for -/
def forL (tg : Tg) (b : M Fl) : List D → M Fl
  | [] => M.ret .nx
  | d :: ds => fun Γ => match tg d Γ with
    | none => .bad
    | some Γ1 => M.bnd b (fun fl => match fl with
      | .nx => forL tg b ds
      | .cnt => forL tg b ds
      | .brk => M.ret .nx
      | .ret r => M.ret (.ret r)) Γ1
def sFor (it : M (List D)) (tg : Tg) (b : M Fl) : M Fl := it.bnd fun ds => forL tg b ds
theorem ss_for {X : Cx} {k : Kx} {E : L2.St → XK} {tgE iter : Expr} {body : List Stmt} {pos : Pos} {it : M (List D)} {g : TG} {tg : Tg} {vs : List Nat} {f : M Fl} (hp : PassesOwn (model X.prog X.w) X.A X.env X.xe) (hc : X.calm = true) (hi : PI X tgE iter (tI k it E)) (hg : PG X tgE g) (ht : TgS k g tg vs)
    (hb : PSs X body (tS k f E)) (hs : ∀ x, foldedSetIterable iter X.env x = pure x := by intro _; rfl) : PS X (.For tgE iter body [] pos) (tS k (sFor it tg f) E) :=
  (ps_for hp hc hi hg hb hs).imp fun D σ H ⟨c, Γ, F, W, so, po⟩ => ⟨c, Γ, F, W, so, po.seqE fun ds Γ1 J F1 W1 H1 so1 sm1 r1 po1 => by
    refine ⟨fun i m σ H => m = ds.length - i ∧ i ≤ ds.length ∧ ∃ Γ F' W, SOk k c Γ σ F' W H ∧ Same F1 F' ∧ PostS k c F' E (forL tg f (ds.drop i) Γ) D, ⟨ds.length, by simp, Nat.zero_le _, Γ1, F1, W1, so1, Same.refl F1, po1⟩, ?_⟩
    rintro i m σ H ⟨rfl, hi, Γ, F2, W2, so2, sm2, po2⟩
    by_cases hlt : i < ds.length
    · refine .inr ⟨r1.go i F2 H sm2 so2.sub hlt, fun σ' H' => ∃ Γ F' W, SOk k c Γ σ' F' W H' ∧ Same F1 F' ∧ PostS k c F' E (forL tg f (ds.drop (i + 1)) Γ) D, fun σ' H' h' => ⟨ds.length - (i + 1), by omega, rfl, hlt, h'⟩, fun x H' y => ?_⟩
      obtain ⟨F3, d, so3, sm3, ed, dt⟩ := r1.yld i c Γ σ F2 W2 H x H' so2 sm2 y hlt
      have e1 : ds.drop i = d :: ds.drop (i + 1) := by
        rw [List.drop_eq_getElem_cons hlt]
        have : ds[i] = d := by rw [List.getElem?_eq_getElem hlt] at ed; exact Option.some.inj ed
        rw [this]
      rw [e1] at po2
      unfold forL at po2
      split at po2
      · exact po2.elim
      · rename_i Γ4 et
        refine ht c Γ σ F3 W2 H' x d Γ4 _ so3 dt et fun σ4 so4 _ _ => ⟨c, Γ4, F3, W2, so4, ?_⟩
        have po2 := po2.mono sm3
        unfold M.bnd at po2
        cases e : f Γ4 with
        | ok x g1 =>
          rw [e] at po2
          cases x with
          | nx => exact fun σ' F' W' H' h1 h2 => ⟨g1, F', W', h1, (sm2.trans sm3).trans h2, po2.mono h2⟩
          | cnt => exact fun σ' F' W' H' h1 h2 => ⟨g1, F', W', h1, (sm2.trans sm3).trans h2, po2.mono h2⟩
          | brk => exact po2
          | ret r => exact po2
        | exc n g1 => rw [e] at po2; exact po2
        | bad => rw [e] at po2; exact po2
    · have e : i = ds.length := by omega
      subst e
      rw [List.drop_length] at po2
      exact .inl ⟨r1.stop F2 H sm2 so2.sub, po2 σ F2 W2 H so2 (Same.refl F2)⟩⟩
/-! ### comprehensions -/
def wipeE (Γ : En) : List Nat → En
  | [] => Γ
  | v :: vs => (wipeE Γ vs).set v .un
/-- the block's own slots as they were, unless an object of its own stood there -/
def backE (Γ0 Γ1 : En) : List Nat → En
  | [] => Γ1
  | v :: vs => (backE Γ0 Γ1 vs).set v (match Γ0[v]? with
    | some (.val d) => .val d
    | _ => .un)
def noX {α : Type} (f : M α) : M α := fun Γ => match f Γ with
  | .exc _ _ => .bad
  | x => x
def lcL (tg : Tg) (t : M Bool) (f : M R) (vs : List Nat) : List D → List D → M (List D)
  | [], acc => M.ret acc
  | d :: ds, acc => fun Γ => match tg d (wipeE Γ vs) with
    | none => .bad
    | some Γ1 => M.bnd t (fun b => if b = true then (M.bnd f fun r => (stD r).bnd fun d => if acc.length < 1000000 then lcL tg t f vs ds (acc ++ [d]) else M.bad) else lcL tg t f vs ds acc) Γ1
def lcM (it : M (List D)) (tg : Tg) (t : M Bool) (f : M R) (vs : List Nat) : M R := it.bnd fun ds Γ => match lcL tg t f vs ds [] Γ with
  | .ok acc Γ' => .ok (.own (.lst acc)) (backE Γ Γ' vs)
  | _ => .bad
theorem wipeE_cases {Γ : En} {j : Nat} {s : Sl} : ∀ {vs : List Nat}, (wipeE Γ vs)[j]? = some s → s = .un ∨ (j ∉ vs ∧ Γ[j]? = some s)
  | [], h => .inr ⟨by simp, h⟩
  | v :: vs, h => by
    unfold wipeE at h
    rcases set_cases h with ⟨rfl, rfl⟩ | ⟨hne, h⟩
    · exact .inl rfl
    · rcases wipeE_cases h with e | ⟨e1, e2⟩
      · exact .inl e
      · exact .inr ⟨by simp [hne, e1], e2⟩
theorem wipeE_length (Γ : En) : ∀ vs : List Nat, (wipeE Γ vs).length = Γ.length
  | [] => rfl
  | v :: vs => by unfold wipeE; rw [List.length_set, wipeE_length Γ vs]
theorem backE_length (Γ0 Γ : En) : ∀ vs : List Nat, (backE Γ0 Γ vs).length = Γ.length
  | [] => rfl
  | v :: vs => by unfold backE; rw [List.length_set, backE_length Γ0 Γ vs]
theorem backE_cases {Γ0 Γ : En} {j : Nat} {s : Sl} : ∀ {vs : List Nat}, (backE Γ0 Γ vs)[j]? = some s → s = .un ∨ (∃ d, s = .val d ∧ Γ0[j]? = some s) ∨ (j ∉ vs ∧ Γ[j]? = some s)
  | [], h => .inr (.inr ⟨by simp, h⟩)
  | v :: vs, h => by
    unfold backE at h
    rcases set_cases h with ⟨rfl, rfl⟩ | ⟨hne, h⟩
    · split
      · rename_i d hd; exact .inr (.inl ⟨d, rfl, hd⟩)
      · exact .inl rfl
    · rcases backE_cases h with e | e | ⟨e1, e2⟩
      · exact .inl e
      · exact .inr (.inl e)
      · exact .inr (.inr ⟨by simp [hne, e1], e2⟩)
theorem wipe_get {σ : L2.St} {j : Nat} : ∀ {vs : List Nat}, j ∉ vs → (wipe σ vs)[j]? = σ[j]?
  | [], _ => rfl
  | v :: vs, h => by
    unfold wipe
    rw [List.getElem?_set_ne (fun z => h (by simp [z]))]
    exact wipe_get fun z => h (List.mem_cons_of_mem _ z)
theorem SlOk.at {k : Kx} {c : Gc} {σ σ' : L2.St} {F : Hp} {W : Wm} {H : Hp} {j : Nat} {s : Sl} (e : σ'[j]? = σ[j]?) (h : SlOk k c σ F W H j s) : SlOk k c σ' F W H j s := by
  cases s with
  | un => trivial
  | val d => obtain ⟨u, h1, h2⟩ := h; exact ⟨u, e.trans h1, h2⟩
  | own kk o => obtain ⟨u, h1, h2⟩ := h; exact ⟨u, e.trans h1, h2⟩
section
variable {k : Kx} {c : Gc} {Γ Γ0 : En} {σ σ' σ0 : L2.St} {F F0 : Hp} {W : Wm} {H : Hp}
/-- any slots that agree off vs -/
theorem SOk.wiped {vs : List Nat} (so : SOk k c Γ σ F W H) (hl : σ'.length = σ.length) (he : ∀ j, j ∉ vs → σ'[j]? = σ[j]?) : SOk k c (wipeE Γ vs) σ' F W H :=
  ⟨so.sub, so.fr, so.ow, fun j s hj => by
    rcases wipeE_cases hj with rfl | ⟨h1, h2⟩
    · trivial
    · exact SlOk.at (he j h1) (so.sl j s h2), by rw [wipeE_length, hl, so.len]⟩
theorem wipeE_get {Γ : En} {j : Nat} : ∀ {vs : List Nat}, j ∉ vs → (wipeE Γ vs)[j]? = Γ[j]?
  | [], _ => rfl
  | v :: vs, h => by
    unfold wipeE
    rw [List.getElem?_set_ne (fun z => h (by simp [z]))]
    exact wipeE_get fun z => h (List.mem_cons_of_mem _ z)
theorem SOk.backed {vs : List Nat} (so : SOk k c (wipeE Γ vs) (wipe σ0 vs) F W H) (h0 : ∀ (j : Nat) (d : D), Γ0[j]? = some (Sl.val d) → ∃ v, σ0[j]? = some (some v) ∧ Dt F v d) : SOk k c (backE Γ0 Γ vs) σ0 F W H :=
  ⟨so.sub, so.fr, so.ow, fun j s hj => by
    rcases backE_cases hj with rfl | ⟨d, rfl, h1⟩ | ⟨h1, h2⟩
    · trivial
    · exact h0 j d h1
    · exact SlOk.at (wipe_get h1).symm (so.sl j s (by rw [wipeE_get h1]; exact h2)), by
      have := so.len
      rw [wipe_length, wipeE_length] at this
      rw [backE_length, this]⟩
end
theorem wipe_ext {σ σ' : L2.St} {vs : List Nat} (hl : σ'.length = σ.length) (he : ∀ j, j ∉ vs → σ'[j]? = σ[j]?) : wipe σ' vs = wipe σ vs := by
  apply List.ext_getElem?
  intro j
  by_cases hj : j ∈ vs
  · have aux : ∀ {τ : L2.St} {ws : List Nat}, j ∈ ws → (wipe τ ws)[j]? = if j < τ.length then some none else none := by
      intro τ ws
      induction ws with
      | nil => intro h; cases h
      | cons w ws ih =>
        intro h
        unfold wipe
        by_cases hw : w = j
        · subst hw
          by_cases hlt : w < τ.length
          · rw [List.getElem?_set_self (by rw [wipe_length]; exact hlt), if_pos hlt]
          · rw [if_neg hlt, List.getElem?_eq_none (by rw [List.length_set, wipe_length]; omega)]
        · rw [List.getElem?_set_ne hw]
          exact ih (by rcases List.mem_cons.mp h with z | z; exact absurd z.symm hw; exact z)
    rw [aux hj, aux hj, hl]
  · rw [wipe_get hj, wipe_get hj]; exact he j hj
/-- another frame around -/
theorem SOk.regc {k : Kx} {c c' : Gc} {Γ : En} {σ : L2.St} {F : Hp} {W : Wm} {H : Hp} (so : SOk k c Γ σ F W H) (hA : c'.A = c.A) (hf : ∀ a o, c'.G a = some o → H a = some o ∧ F a = none ∧ W a = none) : SOk k c' Γ σ F W H :=
  ⟨so.sub, hf, so.ow, fun j s hj => by
    have h := so.sl j s hj
    cases s with
    | un => trivial
    | val d => exact h
    | own kk o => obtain ⟨p, h1, h2, h3⟩ := h; exact ⟨p, h1, fun j z => by rw [hA]; exact h2 j z, h3⟩, so.len⟩
abbrev E0' : L2.St → XK := fun _ _ _ _ => False
section
variable {X : Cx} {k : Kx} {E : L2.St → XK}
def addG (c : Gc) (D : Addr) (o : HO) : Gc := ⟨upd c.G D o, c.A⟩
theorem lc_ok {it : M (List D)} {g : TG} {tg : Tg} {t : M Bool} {f : M R} {vs : List Nat} (ht : TgS k g tg vs) : ∀ σ H Q, tE k (lcM it tg t f vs) E σ H Q → tLc (tI k it E) g (tT k t E0') (tE k f E0') vs σ H Q := by
  rintro σ H Q ⟨c, Γ, F, W, so, po⟩
  refine ⟨c, Γ, F, W, so, po.seq fun ds Γ1 J F1 W1 H1 so1 sm1 r1 po1 => ?_⟩
  intro D hD
  split at po1
  rotate_left
  · exact po1.elim
  rename_i accF ΓF hres
  have fD : F1 D = none := so1.sub.free hD
  have gD : c.G D = none := by
    cases q : c.G D with
    | none => rfl
    | some o => have := (so1.fr D o q).1; rw [hD] at this; cases this
  have wD : W1 D = none := by
    cases q : W1 D with
    | none => rfl
    | some o => obtain ⟨_, o, h⟩ := so1.ow D _ q; rw [hD] at h; cases h
  refine ⟨fun i m H => m = ds.length - i ∧ i ≤ ds.length ∧ ∃ accV accD Γ F W, SOk k (addG c D (.lst accV)) (wipeE Γ vs) (wipe σ vs) F W H ∧ Same F1 F ∧ DtAll F accV accD ∧ lcL tg t f vs (ds.drop i) accD Γ = .ok accF ΓF,
    ⟨ds.length, by simp, Nat.zero_le _, [], [], Γ1, F1, W1, ?_, Same.refl F1, .nil, hres⟩, ?_⟩
  · have s1 : SOk k c Γ1 σ F1 W1 (upd H1 D (.lst [])) := by
      refine so1.step (Same.refl F1) (fun b u e => ?_) (fun a o e => ?_) (fun a i e => ?_) (fun a i e => ?_)
      · rw [upd_ne (ne_of_none e fD)]; exact so1.sub b u e
      · obtain ⟨h1, h2, h3⟩ := so1.fr a o e
        exact ⟨by rw [upd_ne (ne_of_none h1 hD)]; exact h1, h2, h3⟩
      · obtain ⟨h1, o, h2⟩ := so1.ow a i e
        exact ⟨h1, o, by rw [upd_ne (ne_of_none h2 hD)]; exact h2⟩
      · obtain ⟨h1, o, h2⟩ := so1.ow a _ e
        exact ⟨e, upd_ne (ne_of_none h2 hD)⟩
    have s2 : SOk k (addG c D (.lst [])) Γ1 σ F1 W1 (upd H1 D (.lst [])) := s1.regc rfl fun a o e => by
      by_cases ha : a = D
      · subst ha
        have e : upd c.G a (.lst []) a = some o := e
        rw [upd_same] at e ⊢
        exact ⟨e, fD, wD⟩
      · have e : upd c.G D (.lst []) a = some o := e
        rw [upd_ne ha] at e
        exact s1.fr a o e
    exact s2.wiped (wipe_length _ _) fun j hj => wipe_get hj
  · rintro i m H ⟨rfl, hi, accV, accD, Γ2, F2, W2, so2, sm2, dtA, hl⟩
    have hDl : H D = some (.lst accV) ∧ F2 D = none ∧ W2 D = none := so2.fr D _ (by show upd c.G D (.lst accV) D = _; exact upd_same)
    by_cases hlt : i < ds.length
    · refine .inr ⟨r1.go i F2 H sm2 so2.sub hlt, fun H' => ∃ accV accD Γ F W, SOk k (addG c D (.lst accV)) (wipeE Γ vs) (wipe σ vs) F W H' ∧ Same F1 F ∧ DtAll F accV accD ∧ lcL tg t f vs (ds.drop (i + 1)) accD Γ = .ok accF ΓF,
        fun H' h' => ⟨ds.length - (i + 1), by omega, rfl, hlt, h'⟩, fun x H' y => ?_⟩
      obtain ⟨F3, d, so3, sm3, ed, dt⟩ := r1.yld i _ _ _ F2 W2 H x H' so2 sm2 y hlt
      have e1 : ds.drop i = d :: ds.drop (i + 1) := by
        rw [List.drop_eq_getElem_cons hlt]
        have : ds[i] = d := by rw [List.getElem?_eq_getElem hlt] at ed; exact Option.some.inj ed
        rw [this]
      rw [e1] at hl
      unfold lcL at hl
      split at hl
      · cases hl
      rename_i Γ4 et
      refine ht _ _ _ F3 W2 H' x d Γ4 _ so3 dt et fun σ4 so4 h4 l4 => ⟨?_, ?_⟩
      · have l4' : σ4.length = σ.length := by rw [l4, wipe_length]
        refine wipe_ext l4' fun j hj => ?_
        rw [h4 j hj, wipe_get hj]
      · have l4' : σ4.length = σ.length := by rw [l4, wipe_length]
        have h4' : ∀ j, j ∉ vs → σ4[j]? = σ[j]? := fun j hj => by rw [h4 j hj, wipe_get hj]
        refine ⟨_, Γ4, F3, W2, so4, ?_⟩
        unfold M.bnd at hl
        cases e : t Γ4 with
        | exc n g => rw [e] at hl; cases hl
        | bad => rw [e] at hl; cases hl
        | ok b Γ5 =>
          rw [e] at hl
          intro b' F5 W5 H5 so5 sm5 r5
          subst r5
          cases b' with
          | false =>
            refine iteF ⟨accV, accD, Γ5, F5, W5, ?_, (sm2.trans sm3).trans sm5, dtA.mono (sm3.trans sm5), hl⟩
            exact so5.wiped (by rw [wipe_length, l4']) fun j hj => by rw [wipe_get hj, h4' j hj]
          | true =>
            refine iteT ⟨_, Γ5, F5, W5, so5, ?_⟩
            have hl : M.bnd f (fun r => (stD r).bnd fun d => if accD.length < 1000000 then lcL tg t f vs (ds.drop (i + 1)) (accD ++ [d]) else M.bad) Γ5 = .ok accF ΓF := hl
            unfold M.bnd at hl
            cases e : f Γ5 with
            | exc n g => rw [e] at hl; cases hl
            | bad => rw [e] at hl; cases hl
            | ok r Γ6 =>
              rw [e] at hl
              intro y F6 W6 H6 so6 sm6 r6
              have hl : M.bnd (stD r) (fun d => if accD.length < 1000000 then lcL tg t f vs (ds.drop (i + 1)) (accD ++ [d]) else M.bad) Γ6 = .ok accF ΓF := hl
              have pz : Post k (addG c D (.lst accV)) σ4 F6 E0' (fun _ _ _ _ (_ : Unit) (_ : List PyData) => True) (M.bnd (stD r) (fun d => if accD.length < 1000000 then lcL tg t f vs (ds.drop (i + 1)) (accD ++ [d]) else M.bad) Γ6) (fun _ _ => True) := by
                rw [hl]; exact fun _ _ _ _ _ _ _ => trivial
              obtain ⟨d', Γ7, F7, W7, so7, sm7, dt7, e7, _⟩ := st_step so6 r6 pz
              unfold M.bnd at hl
              rw [e7] at hl
              have hl : (if accD.length < 1000000 then lcL tg t f vs (ds.drop (i + 1)) (accD ++ [d']) else M.bad) Γ7 = .ok accF ΓF := hl
              have hD7 : H6 D = some (.lst accV) ∧ F7 D = none ∧ W7 D = none := so7.fr D _ (by show upd c.G D (.lst accV) D = _; exact upd_same)
              by_cases hz : accD.length < 1000000
              · rw [if_pos hz] at hl
                refine ⟨accV, hD7.1, ?_, accV ++ [y], accD ++ [d'], Γ7, F7, W7, ?_, ((sm2.trans sm3).trans sm5).trans (sm6.trans sm7), (dtA.mono (((sm3.trans sm5).trans sm6).trans sm7)).append (.cons dt7 .nil), hl⟩
                · rw [dtA.length, sizeLine_eq]; omega
                · have s8 : SOk k (addG c D (.lst (accV ++ [y]))) Γ7 σ4 F7 W7 (upd H6 D (.lst (accV ++ [y]))) := by
                    have fr' : ∀ a o, (addG c D (.lst (accV ++ [y]))).G a = some o → upd H6 D (.lst (accV ++ [y])) a = some o ∧ F7 a = none ∧ W7 a = none := fun a o ea => by
                      have ea : upd c.G D (.lst (accV ++ [y])) a = some o := ea
                      by_cases ha : a = D
                      · subst ha
                        rw [upd_same] at ea ⊢
                        exact ⟨ea, hD7.2⟩
                      · rw [upd_ne ha] at ea ⊢
                        exact so7.fr a o (by show upd c.G D (.lst accV) a = _; rw [upd_ne ha]; exact ea)
                    refine ⟨fun b u e => ?_, fr', fun a i e => ?_, fun j s hj => ?_, so7.len⟩
                    · rw [upd_ne (fun z => by rw [z, hD7.2.1] at e; cases e)]; exact so7.sub b u e
                    · obtain ⟨q1, o, q2⟩ := so7.ow a i e
                      refine ⟨q1, ?_⟩
                      by_cases ha : a = D
                      · subst ha; exact ⟨_, upd_same⟩
                      · exact ⟨o, by rw [upd_ne ha]; exact q2⟩
                    · have q := (so7.sl j s hj).keep (F' := F7) (W' := W7) (H' := upd H6 D (.lst (accV ++ [y]))) (Same.refl F7) fun a ha => ⟨ha, upd_ne fun z => by rw [z, hD7.2.2] at ha; cases ha⟩
                      cases s with
                      | un => trivial
                      | val d => exact q
                      | own kk o => exact q
                  exact s8.wiped (by rw [wipe_length, l4']) fun j hj => by rw [wipe_get hj, h4' j hj]
              · rw [if_neg hz] at hl; cases hl
    · have e : i = ds.length := by omega
      subst e
      rw [List.drop_length] at hl
      have hl : (Rs.ok accD Γ2 : Rs (List PyData)) = .ok accF ΓF := hl
      injection hl with h1 h2
      subst h1 h2
      refine .inl ⟨r1.stop F2 H sm2 so2.sub, ?_⟩
      refine po1 (.ref D) F2 (updW W2 D (some .tmp)) H ?_ sm2 ⟨D, rfl, updW_same, accV, hDl.1, dtA⟩
      have s3 : SOk k (addG c D (.lst accV)) (backE Γ1 Γ2 vs) σ F2 W2 H := so2.backed fun j d hj => by
        obtain ⟨v, q1, q2⟩ := so1.sl j _ hj
        exact ⟨v, q1, q2.mono sm2⟩
      refine ⟨s3.sub, fun a o e => ?_, fun a i e => ?_, fun j s hj => ?_, s3.len⟩
      · have ha : a ≠ D := fun z => by rw [z, gD] at e; cases e
        rw [updW_ne ha]
        exact s3.fr a o (by show upd c.G D (.lst accV) a = _; rw [upd_ne ha]; exact e)
      · by_cases ha : a = D
        · subst ha; exact ⟨hDl.2.1, _, hDl.1⟩
        · rw [updW_ne ha] at e; exact s3.ow a i e
      · have q := (s3.sl j s hj).keep (F' := F2) (W' := updW W2 D (some .tmp)) (H' := H) (Same.refl F2) fun a ha => ⟨by
          rw [updW_ne (fun z => by rw [z, hDl.2.2] at ha; cases ha)]; exact ha, rfl⟩
        cases s with
        | un => trivial
        | val d => exact q
        | own kk o => exact q
theorem se_lc {elt tgE iter : Expr} {ifs : List Expr} {scope : Scope} {own : List (Str × Nat)} {pos : Pos} {it : M (List D)} {g : TG} {tg : Tg} {t : M Bool} {f : M R} {vs : List Nat} (hv : own.map (·.2) = vs) (hc : X.calm = true) (hN : X.N.Nodup) (hi : PI X tgE iter (tI k it E)) (ok : BlkOk X.N X.env.scope scope own)
    (hg : ∀ (s : Shared) (H : Hp) (C : Addr) (cl : List (Str × Addr)) (fp : List Addr), PG (X.blk s H scope (compEnvC scope cl C X.env) fp) tgE g) (ht : TgS k g tg vs)
    (htt : ∀ (s : Shared) (H : Hp) (C : Addr) (cl : List (Str × Addr)) (fp : List Addr), PTs (X.blk s H scope (compEnvC scope cl C X.env) fp) ifs (tT k t E0'))
    (he : ∀ (s : Shared) (H : Hp) (C : Addr) (cl : List (Str × Addr)) (fp : List Addr), PE (X.blk s H scope (compEnvC scope cl C X.env) fp) elt (tE k f E0')) (hs : ∀ x, foldedSetIterable iter X.env x = pure x := by intro _; rfl) :
    PE X (.ListComp elt [⟨tgE, iter, ifs, 0⟩] scope pos) (tE k (lcM it tg t f vs) E) := by
  subst hv
  exact (pe_lc hc hN hi ok hg htt he hs).imp (lc_ok ht)
theorem ss_setLc {i : Nat} {y : Str} {py : Pos} {elt tgE iter : Expr} {ifs : List Expr} {scope : Scope} {own : List (Str × Nat)} {pos spos : Pos} {it : M (List D)} {g : TG} {tg : Tg} {t : M Bool} {f : M R} {vs : List Nat} (hv : own.map (·.2) = vs) (hc : X.calm = true) (hN : X.N.Nodup) (hy : X.N[i]? = some y) (hyl : X.env.scope.names.lookup y = some .local)
    (hsw : swapsWith (.ListComp elt [⟨tgE, iter, ifs, 0⟩] scope pos) (some (.Name y py)) spos.line X.env = pure true) (hi : PI X tgE iter (tI k it E)) (ok : BlkOk X.N X.env.scope scope own)
    (hg : ∀ (s : Shared) (H : Hp) (C : Addr) (cl : List (Str × Addr)) (fp : List Addr), PG (X.blk s H scope (compEnvC scope cl C X.env) fp) tgE g) (ht : TgS k g tg vs)
    (htt : ∀ (s : Shared) (H : Hp) (C : Addr) (cl : List (Str × Addr)) (fp : List Addr), PTs (X.blk s H scope (compEnvC scope cl C X.env) fp) ifs (tT k t E0'))
    (he : ∀ (s : Shared) (H : Hp) (C : Addr) (cl : List (Str × Addr)) (fp : List Addr), PE (X.blk s H scope (compEnvC scope cl C X.env) fp) elt (tE k f E0')) (hs : ∀ x, foldedSetIterable iter X.env x = pure x := by intro _; rfl) :
    PS X (.Assign [.Name y py] (.ListComp elt [⟨tgE, iter, ifs, 0⟩] scope pos) spos) (tS k (sAsg i (lcM it tg t f vs)) E) := by
  subst hv
  refine (ps_setLc (i := i) hc hN hy hyl hsw hi ok hg htt he hs).imp fun D σ H ⟨c, Γ, F, W, so, po⟩ => ?_
  refine lc_ok ht σ H _ ⟨c, Γ, F, W, so, po.seqE fun r Γ1 v F1 W1 H1 so1 sm1 r1 po1 => ?_⟩
  unfold M.bnd at po1
  cases e : asgR i r Γ1 with
  | ok r' g1 =>
    rw [e] at po1
    obtain ⟨F', W', so2, sm2⟩ := asg_step so1 r1 e
    exact po1 _ F' W' H1 so2 sm2
  | exc n g1 =>
    exfalso
    unfold asgR at e
    split at e
    · split at e
      · cases e
      · cases e
      · split at e
        · cases e
        · split at e <;> cases e
        · cases e
    · cases e
  | bad => rw [e] at po1; exact po1.elim
theorem sts_nil : PTs X [] (tT k (M.ret true) E) := ⟨fun pins s σ H Q I ⟨c, Γ, F, W, so, po⟩ => pts_nil.run pins s σ H Q I (po true F W H so (Same.refl F) rfl)⟩
theorem sts_one {q : Expr} {t : M Bool} (h : PT X q (tT k t E)) : PTs X [q] (tT k t E) := pts_one h
end
end Rt
namespace Rt
open PySem PySem.Spec PyProof.Rows L2

/-! ### defs -/
def PostF (k : Kx) (c : Gc) (F : Hp) (Q : VK) (E : XK) (res : Rs R) : Prop := match res with
  | .ok r Γ' => ∀ v σ' F' W' H', SOk k c Γ' σ' F' W' H' → Same F F' → ROk k σ' F' W' H' v r → Q v H'
  | .exc n Γ' => ∀ σ' F' W' H', SOk k c Γ' σ' F' W' H' → Same F F' → E (.ref (k.C n)) none H'
  | .bad => False
/-- a def's promise: g is what it computes of its arguments -/
def spF (k : Kx) (n : Nat) (g : En → Rs R) : Sp := fun vs H Q E => ∃ c Γ F W, vs.length = n ∧ SOk k c Γ (vs.map some) F W H ∧ PostF k c F Q E (g Γ)
def fnM (f : M Fl) (m : Nat) : En → Rs R := fun Γ => match f (Γ ++ List.replicate m .un) with
  | .ok (.ret r) Γ' => .ok r Γ'
  | .ok .nx Γ' => .ok (.val .none) Γ'
  | .ok _ _ => .bad
  | .exc n Γ' => .exc n Γ'
  | .bad => .bad
theorem spF_len {k : Kx} {n : Nat} {g : En → Rs R} : ∀ vs H Q E, spF k n g vs H Q E → vs.length = n := fun vs H Q E ⟨_, _, _, _, h, _⟩ => h
theorem body_ok {k : Kx} {n m : Nat} {f : M Fl} {N : List Str} (hN : N.length = n + m) {vs : List V} {H : Hp} {Q : VK} {E : XK} (h : spF k n (fnM f m) vs H Q E) :
    tS k f (fun _ => E) { nx := fun _ H' => Q .non H', rt := Q } (L2.start N vs) H := by
  obtain ⟨c, Γ, F, W, hl, so, po⟩ := h
  refine ⟨c, Γ ++ List.replicate m .un, F, W, ⟨so.sub, so.fr, so.ow, fun i s hi => ?_, ?_⟩, ?_⟩
  · have hΓ : Γ.length = n := by rw [← so.len, List.length_map, hl]
    by_cases hlt : i < Γ.length
    · rw [List.getElem?_append_left hlt] at hi
      refine SlOk.at ?_ (so.sl i s hi)
      unfold L2.start
      rw [List.getElem?_append_left (by rw [List.length_map, hl]; omega)]
    · rw [List.getElem?_append_right (by omega), List.getElem?_replicate] at hi
      split at hi
      · cases hi; trivial
      · cases hi
  · unfold L2.start
    rw [List.length_append, List.length_append, ← so.len, List.length_replicate, List.length_replicate, hN, hl]
    omega
  · unfold fnM at po
    cases e : f (Γ ++ List.replicate m .un) with
    | ok fl g1 =>
      rw [e] at po
      cases fl with
      | ret r => exact po
      | nx => exact fun σ' F' W' H' h1 h2 => po .non σ' F' W' H' h1 h2 .non
      | brk => exact po.elim
      | cnt => exact po.elim
    | exc n g1 => rw [e] at po; exact po
    | bad => rw [e] at po; exact po
/-! ### calls -/
section
variable {k : Kx} {c : Gc} {Γ : En} {σ : L2.St} {F : Hp} {W : Wm} {H : Hp} {E : L2.St → XK} {Q : VK}
def slV : List D → En := List.map Sl.val
theorem slV_ok {vs : List V} {ds : List D} (dt : DtAll F vs ds) : ∀ (i : Nat) (s : Sl), (slV ds)[i]? = some s → ∃ v d, s = Sl.val d ∧ (vs.map some)[i]? = some (some v) ∧ Dt F v d := fun i s h => by
  unfold slV at h
  rw [List.getElem?_map] at h
  cases e : ds[i]? with
  | none => rw [e] at h; cases h
  | some d =>
    rw [e] at h
    obtain ⟨v, h1, h2⟩ := dt.get e
    exact ⟨v, d, (Option.some.inj h).symm, by simp [h1], h2⟩
def retV (res : Rs R) (Γ : En) : Rs R := match res with
  | .ok (.val d) _ => .ok (.val d) Γ
  | .ok (.own o) _ => .ok (.own o) Γ
  | .ok (.bor _) _ => .bad
  | .exc n _ => .exc n Γ
  | .bad => .bad
/-- all arguments frozen -/
def callV (n : Nat) (g : En → Rs R) (fs : M (List R)) : M R := fs.bnd fun rs => (M.ofO (valsOf rs)).bnd fun ds Γ => if ds.length = n then retV (g (slV ds)) Γ else .bad
theorem callV_sp {n : Nat} {g : En → Rs R} {vs : List V} {ds : List D} (hn : ds.length = n) (so : SOk k c Γ σ F W H) (dt : DtAll F vs ds)
    (po : Post k c σ F E (ROk k) (retV (g (slV ds)) Γ) Q) : spF k n g vs H Q (E σ) := by
  have g1 : ∀ a o, (if (F a).isSome then none else H a) = some o → H a = some o ∧ F a = none := fun a o e => by
    split at e
    · cases e
    · rename_i h
      exact ⟨e, by simpa using h⟩
  refine ⟨⟨fun a => if (F a).isSome then none else H a, fun _ => 0⟩, slV ds, F, fun _ => none, by rw [dt.length, hn], ⟨so.sub, fun a o e => ⟨(g1 a o e).1, (g1 a o e).2, rfl⟩, fun a i e => (nomatch e), fun i s hs => ?_, by simp [slV, dt.length]⟩, ?_⟩
  · obtain ⟨v, d, rfl, h1, h2⟩ := slV_ok dt i s hs
    exact ⟨v, h1, h2⟩
  · have back : ∀ {Γ' : En} {σ' : L2.St} {F' : Hp} {W' : Wm} {H' : Hp}, SOk k ⟨fun a => if (F a).isSome then none else H a, fun _ => 0⟩ Γ' σ' F' W' H' → Same F F' →
        SOk k c Γ σ F' (fun a => match W a with | some o => some o | none => if W' a = some .tmp then some .tmp else none) H' ∧ ∀ a, W' a = some .tmp → (match W a with | some o => some o | none => if W' a = some .tmp then some .tmp else none) = some Ow.tmp := by
      intro Γ' σ' F' W' H' so' sm
      have fr' : ∀ a o, H a = some o → F a = none → H' a = some o ∧ F' a = none ∧ W' a = none := fun a o h1 h2 => so'.fr a o (by show (if (F a).isSome then none else H a) = some o; rw [h2]; exact h1)
      refine ⟨so.step sm so'.sub (fun a o e => ?_) (fun a i e => ?_) (fun a i e => ?_), fun a e => ?_⟩
      · obtain ⟨h1, h2, h3⟩ := so.fr a o e
        obtain ⟨q1, q2, q3⟩ := fr' a o h1 h2
        exact ⟨q1, q2, by simp [h3, q3]⟩
      · cases hw : W a with
        | some o =>
          obtain ⟨h1, u, h2⟩ := so.ow a o hw
          obtain ⟨q1, q2, q3⟩ := fr' a u h2 h1
          exact ⟨q2, u, q1⟩
        | none =>
          simp only [hw] at e
          split at e
          · rename_i ht; exact so'.ow a _ ht
          · cases e
      · obtain ⟨h1, u, h2⟩ := so.ow a _ e
        obtain ⟨q1, q2, q3⟩ := fr' a u h2 h1
        exact ⟨by simp [e], q1.trans h2.symm⟩
      · cases hw : W a with
        | some o =>
          obtain ⟨h1, u, h2⟩ := so.ow a o hw
          obtain ⟨q1, q2, q3⟩ := fr' a u h2 h1
          rw [q3] at e; cases e
        | none => simp [e]
    cases e : g (slV ds) with
    | ok r g1 =>
      rw [e] at po
      cases r with
      | val d =>
        intro v σ' F' W' H' s1 s2 s3
        obtain ⟨q1, q2⟩ := back s1 s2
        exact po v F' _ H' q1 s2 s3
      | own o =>
        rintro v σ' F' W' H' s1 s2 ⟨p, ep, s3⟩
        obtain ⟨q1, q2⟩ := back s1 s2
        exact po v F' _ H' q1 s2 ⟨p, ep, s3.keep (Same.refl F') fun a ha => ⟨q2 a ha, rfl⟩⟩
      | bor i => exact po.elim
    | exc n g1 =>
      rw [e] at po
      intro σ' F' W' H' s1 s2
      obtain ⟨q1, q2⟩ := back s1 s2
      exact po F' _ H' q1 s2
    | bad => rw [e] at po; exact po.elim
/-- one argument is an object of our own (a slot's, or one just made): it comes back changed -/
def argIO (Γ : En) : Nat → List R → Option (En × Nat × Option Nat)
  | _, [] => none
  | j, .val d :: rs => (argIO Γ (j + 1) rs).map fun x => (.val d :: x.1, x.2)
  | j, .own o :: rs => (valsOf rs).map fun ds => (.own (some j) o :: slV ds, j, none)
  | j, .bor i :: rs => match Γ[i]? with
    | some (.own _ o) => (valsOf rs).map fun ds => (.own (some j) o :: slV ds, j, some i)
    | some (.val d) => (argIO Γ (j + 1) rs).map fun x => (.val d :: x.1, x.2)
    | _ => none
/-- what the caller's slot is behind it -/
def afterIO (Γ Γ' : En) (j : Nat) : Option Nat → En
  | none => Γ
  | some i => Γ.set i (match Γ[i]?, Γ'[j]? with
    | some (.own kk _), some (.own (some j') o') => if j' = j then .own kk o' else .un
    | _, _ => .un)
def retIO (res : Rs R) (Γ : En) (j : Nat) (i : Option Nat) : Rs R := match res with
  | .ok (.val d) Γ' => .ok (.val d) (afterIO Γ Γ' j i)
  | .ok (.own o) Γ' => .ok (.own o) (afterIO Γ Γ' j i)
  | .ok (.bor _) _ => .bad
  | .exc n Γ' => .exc n (afterIO Γ Γ' j i)
  | .bad => .bad
def callIO (n : Nat) (g : En → Rs R) (fs : M (List R)) : M R := fs.bnd fun rs Γ => match argIO Γ 0 rs with
  | some (Γ0, j, i) => if rs.length = n then retIO (g Γ0) Γ j i else .bad
  | none => .bad
end
section
variable {X : Cx} {k : Kx} {E : L2.St → XK} {kk n : Nat} {f : Addr} {fd : FuncData} {ps : List Str} {x : Str} {p pos : Pos} {e : Expr} {es : List Expr}
theorem ofO_ok {α γ δ : Type} {o : Option α} {g : α → M γ} {c : Gc} {Γ : En} {σ : L2.St} {F : Hp} {rel : L2.St → Hp → Wm → Hp → δ → γ → Prop} {Q : δ → Hp → Prop} (po : Post k c σ F E rel ((M.ofO o).bnd g Γ) Q) : ∃ a, o = some a ∧ Post k c σ F E rel (g a Γ) Q := by
  cases o with
  | none => exact po.elim
  | some a => exact ⟨a, rfl, po⟩
theorem callV_ok {g : En → Rs R} {fs : M (List R)} : ∀ σ H Q, tE k (callV n g fs) E σ H Q → tCallS (spF k n g) E (tA k fs E) σ H Q := fun σ H Q ⟨c, Γ, F, W, so, po⟩ =>
  ⟨c, Γ, F, W, so, po.seq fun rs Γ1 vs F1 W1 H1 so1 sm1 r1 po1 => by
    obtain ⟨ds, ed, po2⟩ := ofO_ok po1
    split at po2
    · rename_i hl
      exact callV_sp hl so1 (r1.vals ed) po2
    · exact po2.elim⟩
theorem se_call {g : En → Rs R} {fs : M (List R)} (Fn : FnOk X.prog X.w X.K X.mg X.base (L2.CX X.prog X.w) kk f fd ps (spF k n g)) (hr : Room kk X.A) (hg : Gl X x) (hm : X.mg x = some (.ref f)) (hk : PySem.W.keepIn X.K (.ref f) = true) (hb : Binds X.K fd ps []) (hx : ∀ σ, PassesAt (L2.CX X.prog X.w) X σ (E σ))
    (ha : PA X (e :: es) (tA k fs E)) (hdb : (x == ("__debug__" : Str)) = false := by decide) (he : starEach (e :: es) X.env = (false, eval e X.env) :: starEach es X.env := by rfl) (hpl : (backTo pos (starEach es X.env)).any (·.1) = false := by rfl) :
    PE X (.Call (.Name x p) (e :: es) [] pos) (tE k (callV n g fs) E) :=
  (pe_callS Fn hr hg hm hk hb hx ha hdb he hpl).imp callV_ok
theorem pe_callS0 {sp : Sp} (Fn : FnOk X.prog X.w X.K X.mg X.base (L2.CX X.prog X.w) kk f fd ps sp) (hr : Room kk X.A) (hg : Gl X x) (hm : X.mg x = some (.ref f)) (hk : PySem.W.keepIn X.K (.ref f) = true) (hb : Binds X.K fd ps [])
    (hx : ∀ σ, PassesAt (L2.CX X.prog X.w) X σ (E σ)) (hdb : (x == ("__debug__" : Str)) = false := by decide) : PE X (.Call (.Name x p) [] [] pos) (tCallS sp E tNil) :=
  ⟨fun pins s σ H Q I h => wpAny_Call_Name_kw (ld_glob I hg hm (PySem.W.callWith_K0 I.kIn hk (run_fnS (us := []) (vs := []) Fn hr hb (hx σ) I .nil h)) hdb)⟩
theorem se_call0 {g : En → Rs R} (Fn : FnOk X.prog X.w X.K X.mg X.base (L2.CX X.prog X.w) kk f fd ps (spF k n g)) (hr : Room kk X.A) (hg : Gl X x) (hm : X.mg x = some (.ref f)) (hk : PySem.W.keepIn X.K (.ref f) = true) (hb : Binds X.K fd ps []) (hx : ∀ σ, PassesAt (L2.CX X.prog X.w) X σ (E σ))
    (hdb : (x == ("__debug__" : Str)) = false := by decide) : PE X (.Call (.Name x p) [] [] pos) (tE k (callV n g aNil) E) :=
  (pe_callS0 Fn hr hg hm hk hb hx hdb).imp fun σ H Q h => by
    obtain ⟨c, Γ, F, W, so, po⟩ := h
    have po : Post k c σ F E (ROk k) ((M.ofO (valsOf [])).bnd (fun ds Γ => if ds.length = n then retV (g (slV ds)) Γ else .bad) Γ) Q := po
    obtain ⟨ds, ed, po2⟩ := ofO_ok po
    cases ed
    split at po2
    · rename_i hl
      exact callV_sp (vs := []) hl so .nil po2
    · exact po2.elim
end
/-! ### a call with an object of one's own -/
section
variable {k : Kx} {c : Gc} {Γ : En} {σ : L2.St} {F : Hp} {W : Wm} {H : Hp} {E : L2.St → XK} {Q : VK}
/-- the passed owner -/
def srcIO : Option Nat → Ow
  | none => .tmp
  | some i => .slot i
/-- the arguments' slots: p the object's address -/
theorem argIO_ok (so : SOk k c Γ σ F W H) : ∀ {rs : List R} {vs : List V} {j0 j : Nat} {i : Option Nat} {Γ0 : En}, RAll k σ F W H vs rs → argIO Γ j0 rs = some (Γ0, j, i) →
    ∃ p o, j0 ≤ j ∧ Γ0.length = vs.length ∧ OwnOk k F H (fun a => W a = some (srcIO i)) p o ∧ (∀ m s, Γ0[m]? = some s → (∃ v d, s = Sl.val d ∧ (vs.map some)[m]? = some (some v) ∧ Dt F v d) ∨ (j0 + m = j ∧ s = Sl.own (some j) o ∧ (vs.map some)[m]? = some (some (.ref p)))) ∧
      (∀ i', i = some i' → ∃ kk, Γ[i']? = some (.own kk o) ∧ σ[i']? = some (some (.ref p)))
  | [], _, _, _, _, _, _, e => by cases e
  | .val d :: rs, _, j0, j, i, Γ0, .cons (v := v) (vs := vs) a t, e => by
    simp only [argIO, Option.map_eq_some_iff] at e
    obtain ⟨⟨x1, x2, x3⟩, e1, e2⟩ := e
    cases e2
    obtain ⟨p, o, h1, h2, h3, h4, h5⟩ := argIO_ok so t e1
    refine ⟨p, o, by omega, by simp [h2], h3, fun m s hm => ?_, h5⟩
    cases m with
    | zero => cases hm; exact .inl ⟨v, d, rfl, rfl, a⟩
    | succ m =>
      rcases h4 m s (by simpa using hm) with ⟨v, d, q1, q2, q3⟩ | ⟨q1, q2, q3⟩
      · exact .inl ⟨v, d, q1, by simpa using q2, q3⟩
      · exact .inr ⟨by omega, q2, by simpa using q3⟩
  | .own o :: rs, _, j0, j, i, Γ0, .cons (v := v) (vs := vs) a t, e => by
    simp only [argIO, Option.map_eq_some_iff] at e
    obtain ⟨ds, e1, e2⟩ := e
    cases e2
    obtain ⟨p, rfl, ow⟩ := a
    have dt := t.vals e1
    refine ⟨p, o, Nat.le_refl _, by simp [slV, dt.length], ow, fun m s hm => ?_, fun i' z => by cases z⟩
    cases m with
    | zero => cases hm; exact .inr ⟨rfl, rfl, rfl⟩
    | succ m =>
      obtain ⟨v, d, q1, q2, q3⟩ := slV_ok dt m s (by simpa using hm)
      exact .inl ⟨v, d, q1, by simpa using q2, q3⟩
  | .bor i0 :: rs, _, j0, j, i, Γ0, .cons (v := v) (vs := vs) a t, e => by
    have a : σ[i0]? = some (some v) := a
    simp only [argIO] at e
    split at e
    · rename_i kk o hg
      simp only [Option.map_eq_some_iff] at e
      obtain ⟨ds, e1, e2⟩ := e
      cases e2
      obtain ⟨p, h1, _, ow⟩ := so.sl i0 _ hg
      rw [a] at h1; cases h1
      have dt := t.vals e1
      refine ⟨p, o, Nat.le_refl _, by simp [slV, dt.length], ow, fun m s hm => ?_, fun i' z => by cases z; exact ⟨kk, hg, a⟩⟩
      cases m with
      | zero => cases hm; exact .inr ⟨rfl, rfl, rfl⟩
      | succ m =>
        obtain ⟨v, d, q1, q2, q3⟩ := slV_ok dt m s (by simpa using hm)
        exact .inl ⟨v, d, q1, by simpa using q2, q3⟩
    · rename_i d hg
      simp only [Option.map_eq_some_iff] at e
      obtain ⟨⟨x1, x2, x3⟩, e1, e2⟩ := e
      cases e2
      obtain ⟨u, hu1, hu2⟩ := so.sl i0 _ hg
      rw [a] at hu1; cases hu1
      obtain ⟨p, o, h1, h2, h3, h4, h5⟩ := argIO_ok so t e1
      refine ⟨p, o, by omega, by simp [h2], h3, fun m s hm => ?_, h5⟩
      cases m with
      | zero => cases hm; exact .inl ⟨_, d, rfl, rfl, hu2⟩
      | succ m =>
        rcases h4 m s (by simpa using hm) with ⟨v, d, q1, q2, q3⟩ | ⟨q1, q2, q3⟩
        · exact .inl ⟨v, d, q1, by simpa using q2, q3⟩
        · exact .inr ⟨by omega, q2, by simpa using q3⟩
    · cases e
theorem callIO_sp {n : Nat} {g : En → Rs R} {vs : List V} {rs : List R} {Γ0 : En} {j : Nat} {i : Option Nat} (hn : rs.length = n) (so : SOk k c Γ σ F W H) (ra : RAll k σ F W H vs rs) (hi : argIO Γ 0 rs = some (Γ0, j, i))
    (po : Post k c σ F E (ROk k) (retIO (g Γ0) Γ j i) Q) : spF k n g vs H Q (E σ) := by
  obtain ⟨p, o, _, hlen, ow, hsl, hio⟩ := argIO_ok so ra hi
  have hvl : vs.length = rs.length := by
    clear hi hn hsl hlen
    induction ra with
    | nil => rfl
    | cons _ _ ih => simp [ih]
  -- the callee's ghosts
  have gf : ∀ a u, (if (F a).isSome ∨ W a = some (srcIO i) then none else H a) = some u → H a = some u ∧ F a = none ∧ W a ≠ some (srcIO i) := fun a u e => by
    split at e
    · cases e
    · rename_i h
      refine ⟨e, ?_, fun z => h (.inr z)⟩
      cases q : F a with
      | none => rfl
      | some w => exact absurd (.inl (by rw [q]; rfl)) h
  have gb : ∀ a u, H a = some u → F a = none → W a ≠ some (srcIO i) → (if (F a).isSome ∨ W a = some (srcIO i) then none else H a) = some u := fun a u h1 h2 h3 => by
    rw [if_neg]
    · exact h1
    · rintro (z | z)
      · rw [h2] at z; cases z
      · exact h3 z
  refine ⟨⟨fun a => if (F a).isSome ∨ W a = some (srcIO i) then none else H a, fun _ => p⟩, Γ0, F, fun a => if W a = some (srcIO i) then some (.slot j) else none, by rw [hvl, hn], ⟨so.sub, fun a u e => ?_, fun a w e => ?_, fun m s hm => ?_, by simp [hlen]⟩, ?_⟩
  · obtain ⟨h1, h2, h3⟩ := gf a u e
    exact ⟨h1, h2, if_neg h3⟩
  · split at e
    · rename_i h; exact so.ow a _ h
    · cases e
  · rcases hsl m s hm with ⟨v, d, rfl, q2, q3⟩ | ⟨q1, rfl, q3⟩
    · exact ⟨v, q2, q3⟩
    · refine ⟨p, q3, fun _ _ => rfl, ow.keep (Same.refl F) fun a ha => ⟨?_, rfl⟩⟩
      have e : m = j := by omega
      subst e
      exact if_pos ha
  · have back : ∀ {Γ' : En} {σ' : L2.St} {F' : Hp} {W' : Wm} {H' : Hp}, SOk k ⟨fun a => if (F a).isSome ∨ W a = some (srcIO i) then none else H a, fun _ => p⟩ Γ' σ' F' W' H' → Same F F' →
        SOk k c (afterIO Γ Γ' j i) σ F' (fun a => match W' a with
          | some (.slot j') => if j' = j ∧ i.isSome then some (srcIO i) else none
          | some .tmp => some .tmp
          | none => if W a = some (srcIO i) then none else W a) H' := by
      intro Γ' σ' F' W' H' so' sm
      have fr' : ∀ a u, H a = some u → F a = none → W a ≠ some (srcIO i) → H' a = some u ∧ F' a = none ∧ W' a = none := fun a u h1 h2 h3 => so'.fr a u (gb a u h1 h2 h3)
      have keepS : ∀ m s, Γ[m]? = some s → (∀ i', i = some i' → m ≠ i') → SlOk k c σ F' (fun a => match W' a with
          | some (.slot j') => if j' = j ∧ i.isSome then some (srcIO i) else none
          | some .tmp => some .tmp
          | none => if W a = some (srcIO i) then none else W a) H' m s := fun m s hs hne => by
        refine (so.sl m s hs).keep sm fun a ha => ?_
        have hw : W a ≠ some (srcIO i) := fun z => by
          rw [ha] at z
          cases i with
          | none => cases z
          | some i' =>
            have z' : Ow.slot m = Ow.slot i' := Option.some.inj z
            injection z' with z'
            exact hne i' rfl z'
        obtain ⟨h1, u, h2⟩ := so.ow a _ ha
        obtain ⟨q1, q2, q3⟩ := fr' a u h2 h1 hw
        refine ⟨?_, q1.trans h2.symm⟩
        simp only [q3]
        rw [if_neg hw]; exact ha
      refine ⟨so'.sub, fun a u e => ?_, fun a w e => ?_, fun m s hm => ?_, ?_⟩
      · obtain ⟨h1, h2, h3⟩ := so.fr a u e
        have hw : W a ≠ some (srcIO i) := fun z => by rw [h3] at z; cases z
        obtain ⟨q1, q2, q3⟩ := fr' a u h1 h2 hw
        refine ⟨q1, q2, ?_⟩
        simp only [q3]
        rw [if_neg hw]; exact h3
      · cases hw : W' a with
        | some x => exact so'.ow a _ hw
        | none =>
          simp only [hw] at e
          split at e
          · cases e
          · rename_i h
            obtain ⟨h1, u, h2⟩ := so.ow a _ e
            obtain ⟨q1, q2, q3⟩ := fr' a u h2 h1 h
            exact ⟨q2, u, q1⟩
      · cases i with
        | none => exact keepS m s hm fun i' z => by cases z
        | some i' =>
          have hm : (Γ.set i' _)[m]? = some s := hm
          rcases set_cases hm with ⟨rfl, rfl⟩ | ⟨hne, hm⟩
          · obtain ⟨kk, hg, hσ⟩ := hio m rfl
            split
            · rename_i kk' o1 j' o' h1 h2
              rw [hg] at h1; cases h1
              split
              · rename_i hj
                subst hj
                obtain ⟨p', q1, q2, q3⟩ := so'.sl j' _ h2
                have ep : p' = p := q2 j' rfl
                subst ep
                obtain ⟨pp, w1, w2, w3⟩ := so.sl m _ hg
                rw [hσ] at w1; cases w1
                refine ⟨p', hσ, w2, q3.keep (Same.refl F') fun a ha => ⟨?_, rfl⟩⟩
                simp only [ha]
                rfl
              · trivial
            · trivial
          · exact keepS m s hm fun i'' z => by cases z; exact hne
      · cases i with
        | none => exact so.len
        | some i' => show σ.length = (Γ.set i' _).length; rw [List.length_set]; exact so.len
    cases e : g Γ0 with
    | ok r g1 =>
      rw [e] at po
      cases r with
      | val d =>
        intro v σ' F' W' H' s1 s2 s3
        exact po v F' _ H' (back s1 s2) s2 s3
      | own o =>
        rintro v σ' F' W' H' s1 s2 ⟨p, ep, s3⟩
        exact po v F' _ H' (back s1 s2) s2 ⟨p, ep, s3.keep (Same.refl F') fun a ha => ⟨by simp only [ha], rfl⟩⟩
      | bor i => exact po.elim
    | exc n g1 =>
      rw [e] at po
      intro σ' F' W' H' s1 s2
      exact po F' _ H' (back s1 s2) s2
    | bad => rw [e] at po; exact po.elim
end
section
variable {X : Cx} {k : Kx} {E : L2.St → XK} {kk n : Nat} {f : Addr} {fd : FuncData} {ps : List Str} {x : Str} {p pos : Pos} {e : Expr} {es : List Expr}
theorem callIO_ok {g : En → Rs R} {fs : M (List R)} : ∀ σ H Q, tE k (callIO n g fs) E σ H Q → tCallS (spF k n g) E (tA k fs E) σ H Q := fun σ H Q ⟨c, Γ, F, W, so, po⟩ =>
  ⟨c, Γ, F, W, so, po.seq fun rs Γ1 vs F1 W1 H1 so1 sm1 r1 po1 => by
    split at po1
    · rename_i Γ0 j i hi
      split at po1
      · rename_i hl
        exact callIO_sp hl so1 r1 hi po1
      · exact po1.elim
    · exact po1.elim⟩
theorem se_callIO {g : En → Rs R} {fs : M (List R)} (Fn : FnOk X.prog X.w X.K X.mg X.base (L2.CX X.prog X.w) kk f fd ps (spF k n g)) (hr : Room kk X.A) (hg : Gl X x) (hm : X.mg x = some (.ref f)) (hk : PySem.W.keepIn X.K (.ref f) = true) (hb : Binds X.K fd ps []) (hx : ∀ σ, PassesAt (L2.CX X.prog X.w) X σ (E σ))
    (ha : PA X (e :: es) (tA k fs E)) (hdb : (x == ("__debug__" : Str)) = false := by decide) (he : starEach (e :: es) X.env = (false, eval e X.env) :: starEach es X.env := by rfl) (hpl : (backTo pos (starEach es X.env)).any (·.1) = false := by rfl) :
    PE X (.Call (.Name x p) (e :: es) [] pos) (tE k (callIO n g fs) E) :=
  (pe_callS Fn hr hg hm hk hb hx ha hdb he hpl).imp callIO_ok
end
end Rt
namespace Rt
open PySem PySem.Spec PyProof.Rows L2

section
variable {k : Kx}
theorem OpS.or {r r' : R2} {d d' : D → D → Option R} (h : OpS k r d) (h' : OpS k r' d') : OpS k (fun x y H Q => r x y H Q ∨ r' x y H Q) (fun a b => match d a b with | some x => some x | none => d' a b) := fun c Γ σ F W H x y a b res Q so rx ry e f => by
  dsimp only at e
  split at e
  · rename_i z hz
    cases e
    exact .inl (h c Γ σ F W H x y a b _ Q so rx ry hz f)
  · exact .inr (h' c Γ σ F W H x y a b _ Q so rx ry e f)
theorem Fin.here {c : Gc} {Γ : En} {σ : L2.St} {F : Hp} {W : Wm} {H : Hp} {Q : VK} {v : V} {d : D} (so : SOk k c Γ σ F W H) (f : Fin k (.val d) Q H F c Γ σ) (dt : Dt F v d) : Q v H := f v F W H so (Same.refl F) dt
/-! ints -/
def dI (g : Int → Int → Option D) : D → D → Option R := fun a b => match a, b with
  | .int i, .int j => (g i j).map .val
  | _, _ => none
theorem opS_I {C : Int → Int → Prop} {g : Int → Int → V} {g' : Int → Int → Option D} (h : ∀ i j d, g' i j = some d → C i j ∧ ∀ F, Dt F (g i j) d) : OpS k (rI C g) (dI g') := fun c Γ σ F W H x y a b res Q so rx ry e f => by
  unfold dI at e
  split at e
  · rename_i i j
    obtain ⟨d, e1, e2⟩ := Option.map_eq_some_iff.mp e
    subst e2
    obtain ⟨h1, h2⟩ := h i j d e1
    exact ⟨i, j, rx.int, ry.int, h1, Fin.here so f (h2 F)⟩
  · cases e
theorem opS_I0 {g : Int → Int → V} {g' : Int → Int → D} (h : ∀ i j F, Dt F (g i j) (g' i j)) : OpS k (rI0 g) (dI fun i j => some (g' i j)) := fun c Γ σ F W H x y a b res Q so rx ry e f => by
  unfold dI at e
  split at e
  · rename_i i j
    cases e
    exact ⟨i, j, rx.int, ry.int, Fin.here so f (h i j F)⟩
  · cases e
def dAddI := dI fun i j => some (.int (i + j))
def dSub := dI fun i j => some (.int (i - j))
def dLt := dI fun i j => some (.bool (decide (i < j)))
def dLe := dI fun i j => some (.bool (decide (i ≤ j)))
def dGt := dI fun i j => some (.bool (decide (j < i)))
def dGe := dI fun i j => some (.bool (decide (j ≤ i)))
def big64 (i : Int) : Bool := decide (-1000000000000000000 ≤ i) && decide (i ≤ 1000000000000000000)
def dMulI := dI fun i j => if big64 i || big64 j then some (.int (i * j)) else none
def dMod := dI fun i j => if 0 < j then some (.int (i % j)) else none
def dFdiv := dI fun i j => if 0 < j ∧ j < 1073741824 then some (.int (i / j)) else none
theorem oS_addI : OpS k (rI0 fun i j => .int (i + j)) dAddI := opS_I0 fun i j F => .int _
theorem oS_sub : OpS k (rI0 fun i j => .int (i - j)) dSub := opS_I0 fun i j F => .int _
theorem oS_lt : OpS k (rI0 fun i j => .bl (decide (i < j))) dLt := opS_I0 fun i j F => .bl _
theorem oS_le : OpS k (rI0 fun i j => .bl (decide (i ≤ j))) dLe := opS_I0 fun i j F => .bl _
theorem oS_gt : OpS k (rI0 fun i j => .bl (decide (j < i))) dGt := opS_I0 fun i j F => .bl _
theorem oS_ge : OpS k (rI0 fun i j => .bl (decide (j ≤ i))) dGe := opS_I0 fun i j F => .bl _
theorem oS_mulI : OpS k (rI CMul fun i j => .int (i * j)) dMulI := opS_I fun i j d e => by
  split at e
  · rename_i h
    cases e
    refine ⟨?_, fun F => .int _⟩
    rcases Bool.or_eq_true_iff.mp h with h | h
    · simp only [big64, Bool.and_eq_true, decide_eq_true_eq] at h
      exact .inl (by omega)
    · simp only [big64, Bool.and_eq_true, decide_eq_true_eq] at h
      exact .inr (by omega)
  · cases e
theorem oS_mod : OpS k (rI (fun _ j => 0 < j) fun i j => .int (i % j)) dMod := opS_I fun i j d e => by
  split at e
  · rename_i h; cases e; exact ⟨h, fun F => .int _⟩
  · cases e
theorem oS_fdiv : OpS k (rI CDiv fun i j => .int (i / j)) dFdiv := opS_I fun i j d e => by
  split at e
  · rename_i h; cases e; exact ⟨h, fun F => .int _⟩
  · cases e
/-! + of texts, lists, tuples -/
def dAddS : D → D → Option R := fun a b => match a, b with
  | .str x, .str y => if x.length + y.length ≤ 1000000 then some (.val (.str (x ++ y))) else none
  | _, _ => none
def dAddL : D → D → Option R := fun a b => match a, b with
  | .list x, .list y => if x.length + y.length ≤ 1000000 then some (.own (.lst (x ++ y))) else none
  | _, _ => none
def dAddT : D → D → Option R := fun a b => match a, b with
  | .tuple x, .tuple y => if x ≠ [] ∧ x.length + y.length ≤ 1000000 then some (.val (.tuple (x ++ y))) else none
  | _, _ => none
theorem oS_addS : OpS k (fun x y H Q => ∃ i j, x = .str i ∧ y = .str j ∧ i.length + j.length ≤ sizeLine ∧ Q (.str (i ++ j)) H) dAddS := fun c Γ σ F W H x y a b res Q so rx ry e f => by
  unfold dAddS at e
  split at e
  · rename_i i j
    split at e
    · rename_i hz
      cases e
      exact ⟨i, j, rx.str, ry.str, mil hz, Fin.here so f (.str _)⟩
    · cases e
  · cases e
theorem oS_addL : OpS k rCat dAddL := fun c Γ σ F W H x y a b res Q so rx ry e f => by
  unfold dAddL at e
  split at e
  · rename_i xs ys
    split at e
    · rename_i hz
      cases e
      obtain ⟨p, vs, rfl, hp, d1⟩ := rx.lst so.sub
      obtain ⟨q, ws, rfl, hq, d2⟩ := ry.lst so.sub
      exact ⟨p, q, vs, ws, rfl, rfl, hp, hq, by rw [d1.length, d2.length]; exact mil hz, newLst so (d1.append d2) f⟩
    · cases e
  · cases e
theorem oS_addT : OpS k (rCatT k.K) dAddT := fun c Γ σ F W H x y a b res Q so rx ry e f => by
  unfold dAddT at e
  split at e
  · rename_i xs ys
    split at e
    · rename_i hz
      cases e
      obtain ⟨p, vs, rfl, fp, hp, d1⟩ := rx.tup so.sub
      obtain ⟨q, ws, rfl, fq, hq, d2⟩ := ry.tup so.sub
      refine ⟨p, q, vs, ws, rfl, rfl, SqT.of hp, SqT.of hq, ?_, by rw [d1.length, d2.length]; exact mil hz.2, ?_, ?_⟩
      · intro z; subst z
        cases d1
        exact hz.1 rfl
      · intro z; subst z
        cases d2
        rw [List.append_nil] at f
        exact Fin.here so f (.tup fp d1)
      · intro _
        exact newTup so (d1.append d2) f
    · cases e
  · cases e
def dAdd : D → D → Option R := fun a b => match dAddI a b with
  | some x => some x
  | none => match dAddS a b with
    | some x => some x
    | none => match dAddL a b with
      | some x => some x
      | none => dAddT a b
theorem op_addA {X : Cx} : OpR X (binaryOp .Add) (fun x y H Q => (rI0 fun i j => .int (i + j)) x y H Q ∨ (fun x y H Q => ∃ i j, x = .str i ∧ y = .str j ∧ i.length + j.length ≤ sizeLine ∧ Q (.str (i ++ j)) H) x y H Q ∨ rCat x y H Q ∨ rCatT X.K x y H Q) :=
  op_add.or (op_add_str.or (op_cat.or op_catT))
theorem oS_add : OpS k (fun x y H Q => (rI0 fun i j => .int (i + j)) x y H Q ∨ (fun x y H Q => ∃ i j, x = .str i ∧ y = .str j ∧ i.length + j.length ≤ sizeLine ∧ Q (.str (i ++ j)) H) x y H Q ∨ rCat x y H Q ∨ rCatT k.K x y H Q) dAdd :=
  oS_addI.or (oS_addS.or (oS_addL.or oS_addT))
def dMulL : D → D → Option R := fun a b => match a, b with
  | .list x, .int j => if small62 j && decide (x.length * j.toNat ≤ 1000000) then some (.own (.lst (List.replicate j.toNat x).flatten)) else none
  | _, _ => none
/-! equality -/
def dEqv : D → D → Option Bool := fun a b => match a, b with
  | .int i, .int j => some (i == j)
  | .str x, .str y => some (x == y)
  | a, b => if SeqAt.shaped a && SeqAt.shaped b then some (PyData.eqv a b) else none
def dEq : D → D → Option R := fun a b => (dEqv a b).map fun x => .val (.bool x)
def dNe : D → D → Option R := fun a b => (dEqv a b).map fun x => .val (.bool !x)
theorem oS_eq : OpS k (fun x y H Q => rEq x y H Q ∨ rEqD k.K x y H Q) dEq := fun c Γ σ F W H x y a b res Q so rx ry e f => by
  unfold dEq at e
  obtain ⟨z, e1, rfl⟩ := Option.map_eq_some_iff.mp e
  unfold dEqv at e1
  split at e1
  · rename_i i j
    cases e1
    rw [rx.int, ry.int]
    exact .inl ⟨rfl, by rw [dec_int]; exact Fin.here so f (.bl _)⟩
  · rename_i i j
    cases e1
    rw [rx.str, ry.str]
    exact .inl ⟨rfl, by rw [dec_str]; exact Fin.here so f (.bl _)⟩
  · split at e1
    · rename_i hs
      cases e1
      obtain ⟨h1, h2⟩ := Bool.and_eq_true_iff.mp hs
      exact .inr ⟨a, b, rx.dp so.sub, ry.dp so.sub, h1, h2, Fin.here so f (.bl _)⟩
    · cases e1
theorem oS_ne : OpS k (fun x y H Q => rNe x y H Q ∨ rNeD k.K x y H Q) dNe := fun c Γ σ F W H x y a b res Q so rx ry e f => by
  unfold dNe at e
  obtain ⟨z, e1, rfl⟩ := Option.map_eq_some_iff.mp e
  unfold dEqv at e1
  split at e1
  · rename_i i j
    cases e1
    rw [rx.int, ry.int]
    exact .inl ⟨rfl, by rw [dec_int]; exact Fin.here so f (.bl _)⟩
  · rename_i i j
    cases e1
    rw [rx.str, ry.str]
    exact .inl ⟨rfl, by rw [dec_str]; exact Fin.here so f (.bl _)⟩
  · split at e1
    · rename_i hs
      cases e1
      obtain ⟨h1, h2⟩ := Bool.and_eq_true_iff.mp hs
      exact .inr ⟨a, b, rx.dp so.sub, ry.dp so.sub, h1, h2, Fin.here so f (.bl _)⟩
    · cases e1
theorem op_eqA {X : Cx} (hu : X.A.units + 64 < cLine) : OpR X (compareOp .Eq) (fun x y H Q => rEq x y H Q ∨ rEqD X.K x y H Q) := op_eq.or (op_eqD hu)
theorem op_neA {X : Cx} (hu : X.A.units + 64 < cLine) : OpR X (compareOp .NotEq) (fun x y H Q => rNe x y H Q ∨ rNeD X.K x y H Q) := op_ne.or (op_neD hu)
/-! is -/
def dIs : D → D → Option R := fun a b => match a, b with
  | .none, .none => some (.val (.bool true))
  | _, .none => some (.val (.bool false))
  | .bool x, .bool y => some (.val (.bool (decide (x = y))))
  | _, _ => none
def dIsNot : D → D → Option R := fun a b => match a, b with
  | .none, .none => some (.val (.bool false))
  | _, .none => some (.val (.bool true))
  | .bool x, .bool y => some (.val (.bool (!decide (x = y))))
  | _, _ => none
theorem Rdy.nn {F H : Hp} {v : V} {d : D} (h : Rdy F H v d) (hd : d ≠ .none) : v ≠ .non := by
  rcases h with h | ⟨p, xs, ds, rfl, rfl, hp, r⟩
  · intro z; subst z; cases h; exact hd rfl
  · exact fun z => nomatch z
theorem oS_is : OpS k (fun x y H Q => (y = .non ∧ Q (.bl (decide (x = .non))) H) ∨ rIsB x y H Q) dIs := fun c Γ σ F W H x y a b res Q so rx ry e f => by
  unfold dIs at e
  split at e
  · cases e
    rw [rx.non, ry.non]
    exact .inl ⟨rfl, Fin.here so f (.bl _)⟩
  · rename_i hn
    cases e
    rw [ry.non]
    refine .inl ⟨rfl, ?_⟩
    rw [decide_eq_false (rx.nn fun z => hn z)]
    exact Fin.here so f (.bl _)
  · rename_i u w
    cases e
    exact .inr ⟨u, w, rx.bl, ry.bl, Fin.here so f (.bl _)⟩
  · cases e
theorem oS_isnot : OpS k (fun x y H Q => (y = .non ∧ Q (.bl (!decide (x = .non))) H) ∨ rNotB x y H Q) dIsNot := fun c Γ σ F W H x y a b res Q so rx ry e f => by
  unfold dIsNot at e
  split at e
  · cases e
    rw [rx.non, ry.non]
    exact .inl ⟨rfl, Fin.here so f (.bl _)⟩
  · rename_i hn
    cases e
    rw [ry.non]
    refine .inl ⟨rfl, ?_⟩
    rw [decide_eq_false (rx.nn fun z => hn z)]
    exact Fin.here so f (.bl _)
  · rename_i u w
    cases e
    exact .inr ⟨u, w, rx.bl, ry.bl, Fin.here so f (.bl _)⟩
  · cases e
theorem op_isA {X : Cx} : OpR X (compareOp .Is) (fun x y H Q => (y = .non ∧ Q (.bl (decide (x = .non))) H) ∨ rIsB x y H Q) := op_isN.or op_isBl
theorem op_isnotA {X : Cx} : OpR X (compareOp .IsNot) (fun x y H Q => (y = .non ∧ Q (.bl (!decide (x = .non))) H) ∨ rNotB x y H Q) := op_notN.or op_notBl
/-! in -/
def flatD : D → Bool
  | .none => true
  | .bool _ => true
  | .int _ => true
  | .str _ => true
  | _ => false
theorem flat_of {F : Hp} {v : V} {d : D} (h : Dt F v d) (f : flatD d = true) : flatV v = true := by
  cases h <;> first | rfl | cases f
theorem eqV_of {F F' : Hp} {v w : V} {d e : D} (h : Dt F v d) (h' : Dt F' w e) (f : flatD d = true) (f' : flatD e = true) : eqV v w = PyData.eqv d e := by
  cases h <;> first
    | cases f; done
    | (cases h' <;> first | (cases f'; done) | rfl | (simp only [eqV, PyData.eqv]; done))
theorem any_of {F F' : Hp} {w : V} {e : D} (h' : Dt F' w e) (f' : flatD e = true) : ∀ {vs : List V} {ds : List D}, DtAll F vs ds → ds.all flatD = true → (vs.all flatV = true ∧ (vs.any fun y => eqV y w) = ds.any fun z => PyData.eqv z e)
  | _, _, .nil, _ => ⟨rfl, rfl⟩
  | _, _, .cons a r, fa => by
    simp only [List.all_cons, Bool.and_eq_true] at fa
    obtain ⟨h1, h2⟩ := any_of h' f' r fa.2
    refine ⟨by simp [flat_of a fa.1, h1], ?_⟩
    simp only [List.any_cons, h2, eqV_of a h' fa.1 f']
def inD (x y : D) : Option Bool := match y with
  | .list ds => if flatD x && ds.all flatD then some (ds.any fun z => PyData.eqv z x) else if SeqAt.shaped x && SeqAt.shaped (.list ds) then some (ds.any fun z => PyData.eqv z x) else none
  | .tuple ds => if flatD x && ds.all flatD then some (ds.any fun z => PyData.eqv z x) else none
  | .str z => match x with
    | .str w => some (!(Builtin.Str.occurrences z w 0 z.length 1).isEmpty)
    | _ => none
  | _ => none
def dIn : D → D → Option R := fun a b => (inD a b).map fun x => .val (.bool x)
def dNotIn : D → D → Option R := fun a b => (inD a b).map fun x => .val (.bool !x)
theorem Rdy.flat {F H : Hp} {v : V} {d : D} (h : Rdy F H v d) (f : flatD d = true) : Dt F v d := by
  rcases h with h | ⟨p, xs, ds, rfl, rfl, hp, r⟩
  · exact h
  · cases f
theorem oS_in : OpS k (fun x y H Q => rIn k.K false x y H Q ∨ rInD k.K x y H Q ∨ ∃ i j, x = .str i ∧ y = .str j ∧ Q (.bl (!(Builtin.Str.occurrences j i 0 j.length 1).isEmpty)) H) dIn := fun c Γ σ F W H x y a b res Q so rx ry e f => by
  unfold dIn at e
  obtain ⟨z, e1, rfl⟩ := Option.map_eq_some_iff.mp e
  unfold inD at e1
  split at e1
  · rename_i ds
    split at e1
    · rename_i hf
      cases e1
      obtain ⟨f1, f2⟩ := Bool.and_eq_true_iff.mp hf
      obtain ⟨p, vs, rfl, hp, dt⟩ := ry.lst so.sub
      obtain ⟨g1, g2⟩ := any_of (rx.flat f1) f1 dt f2
      exact .inl ⟨p, vs, rfl, .inl (SqL.of hp), flat_of (rx.flat f1) f1, g1, by show Q (.bl (vs.any fun y => eqV y x)) H; rw [g2]; exact Fin.here so f (.bl _)⟩
    · split at e1
      · rename_i hs
        cases e1
        obtain ⟨h1, h2⟩ := Bool.and_eq_true_iff.mp hs
        exact .inr (.inl ⟨a, ds, rx.dp so.sub, ry.dp so.sub, h1, h2, Fin.here so f (.bl _)⟩)
      · cases e1
  · rename_i ds
    split at e1
    · rename_i hf
      cases e1
      obtain ⟨f1, f2⟩ := Bool.and_eq_true_iff.mp hf
      obtain ⟨p, vs, rfl, _, hp, dt⟩ := ry.tup so.sub
      obtain ⟨g1, g2⟩ := any_of (rx.flat f1) f1 dt f2
      exact .inl ⟨p, vs, rfl, .inr (SqT.of hp), flat_of (rx.flat f1) f1, g1, by show Q (.bl (vs.any fun y => eqV y x)) H; rw [g2]; exact Fin.here so f (.bl _)⟩
    · cases e1
  · split at e1
    · cases e1
      exact .inr (.inr ⟨_, _, rx.str, ry.str, Fin.here so f (.bl _)⟩)
    · cases e1
  · cases e1
theorem oS_notin : OpS k (fun x y H Q => rIn k.K true x y H Q ∨ rNotInD k.K x y H Q ∨ ∃ i j, x = .str i ∧ y = .str j ∧ Q (.bl (!(!(Builtin.Str.occurrences j i 0 j.length 1).isEmpty))) H) dNotIn := fun c Γ σ F W H x y a b res Q so rx ry e f => by
  unfold dNotIn at e
  obtain ⟨z, e1, rfl⟩ := Option.map_eq_some_iff.mp e
  unfold inD at e1
  split at e1
  · rename_i ds
    split at e1
    · rename_i hf
      cases e1
      obtain ⟨f1, f2⟩ := Bool.and_eq_true_iff.mp hf
      obtain ⟨p, vs, rfl, hp, dt⟩ := ry.lst so.sub
      obtain ⟨g1, g2⟩ := any_of (rx.flat f1) f1 dt f2
      exact .inl ⟨p, vs, rfl, .inl (SqL.of hp), flat_of (rx.flat f1) f1, g1, by show Q (.bl (!(vs.any fun y => eqV y x))) H; rw [g2]; exact Fin.here so f (.bl _)⟩
    · split at e1
      · rename_i hs
        cases e1
        obtain ⟨h1, h2⟩ := Bool.and_eq_true_iff.mp hs
        exact .inr (.inl ⟨a, ds, rx.dp so.sub, ry.dp so.sub, h1, h2, Fin.here so f (.bl _)⟩)
      · cases e1
  · rename_i ds
    split at e1
    · rename_i hf
      cases e1
      obtain ⟨f1, f2⟩ := Bool.and_eq_true_iff.mp hf
      obtain ⟨p, vs, rfl, _, hp, dt⟩ := ry.tup so.sub
      obtain ⟨g1, g2⟩ := any_of (rx.flat f1) f1 dt f2
      exact .inl ⟨p, vs, rfl, .inr (SqT.of hp), flat_of (rx.flat f1) f1, g1, by show Q (.bl (!(vs.any fun y => eqV y x))) H; rw [g2]; exact Fin.here so f (.bl _)⟩
    · cases e1
  · split at e1
    · cases e1
      exact .inr (.inr ⟨_, _, rx.str, ry.str, Fin.here so f (.bl _)⟩)
    · cases e1
  · cases e1
theorem op_inA {X : Cx} (hu : X.A.units + 65 < cLine) : OpR X (compareOp .In) (fun x y H Q => rIn X.K false x y H Q ∨ rInD X.K x y H Q ∨ ∃ i j, x = .str i ∧ y = .str j ∧ Q (.bl (!(Builtin.Str.occurrences j i 0 j.length 1).isEmpty)) H) := op_in_seq.or ((op_inD hu).or op_in_str)
theorem op_notinA {X : Cx} (hu : X.A.units + 65 < cLine) : OpR X (compareOp .NotIn) (fun x y H Q => rIn X.K true x y H Q ∨ rNotInD X.K x y H Q ∨ ∃ i j, x = .str i ∧ y = .str j ∧ Q (.bl (!(!(Builtin.Str.occurrences j i 0 j.length 1).isEmpty))) H) := op_notIn_seq.or ((op_notInD hu).or op_notin_str)
end
end Rt
namespace Rt
open PySem PySem.Spec PyProof.Rows L2
section
variable {k : Kx}
/-! subscripts -/
theorem DtAll.atI {F : Hp} {vs : List V} {ds : List D} {i : Int} {d : D} (h : DtAll F vs ds) (e : atI ds i = some d) : ∃ v, L2.atI vs i = some v ∧ Dt F v d := by
  unfold L2.atI at e ⊢
  rw [h.length]
  obtain ⟨j, e1, e2⟩ := Option.bind_eq_some_iff.mp e
  obtain ⟨v, h1, h2⟩ := h.get e2
  exact ⟨v, by rw [e1]; exact h1, h2⟩
def dIx : D → D → Option R := fun a b => match a, b with
  | .list ds, .int i => (atI ds i).map .val
  | .tuple ds, .int i => (atI ds i).map .val
  | .str z, .int i => if z.length ≤ 1000000 then (atI z.cps.toList i).map fun c => .val (chrD c) else none
  | _, _ => none
theorem oS_ix : OpS k (rIx k.K) dIx := fun c Γ σ F W H x y a b res Q so rx ry e f => by
  unfold dIx at e
  split at e
  · rename_i ds i
    obtain ⟨d, e1, rfl⟩ := Option.map_eq_some_iff.mp e
    obtain ⟨p, vs, rfl, hp, dt⟩ := rx.lst so.sub
    obtain ⟨v, h1, h2⟩ := dt.atI e1
    exact .inl ⟨p, vs, i, v, rfl, ry.int, SqL.of hp, h1, Fin.here so f h2⟩
  · rename_i ds i
    obtain ⟨d, e1, rfl⟩ := Option.map_eq_some_iff.mp e
    obtain ⟨p, vs, rfl, _, hp, dt⟩ := rx.tup so.sub
    obtain ⟨v, h1, h2⟩ := dt.atI e1
    exact .inr (.inl ⟨p, vs, i, v, rfl, ry.int, SqT.of hp, h1, Fin.here so f h2⟩)
  · rename_i z i
    split at e
    · rename_i hz
      obtain ⟨d, e1, rfl⟩ := Option.map_eq_some_iff.mp e
      exact .inr (.inr ⟨z, i, d, rx.str, ry.int, mil hz, e1, Fin.here so f (.str _)⟩)
    · cases e
  · cases e
variable {X : Cx} {E : L2.St → XK} {pos p p2 : Pos} {e a b : Expr} {fa fb f : M R}
theorem se_ix (hk : X.K = k.K) (ha : PE X a (tE k fa E)) (hb : PE X b (tE k fb E)) (hs : PlainIx b := by exact fun _ _ => rfl) : PE X (.Subscript a b pos) (tE k (bin dIx fa fb) E) :=
  (pe_ix ix_seq ha hb hs).imp (by rw [hk]; exact bin_ok oS_ix)
/-! slices -/
def noI : M (Option Int) := M.ret none
def soI (f : M R) : M (Option Int) := f.bnd fun r Γ => match rdD Γ r with
  | some (.int i) => .ok (some i) Γ
  | _ => .bad
abbrev relO : L2.St → Hp → Wm → Hp → Option Int → Option Int → Prop := fun _ _ _ _ b a => b = a
abbrev tOp' (k : Kx) (f : M (Option Int)) (E : L2.St → XK) : TO := tM k relO f E
theorem _root_.L2.PO.imp {e : Option Expr} {t t' : TO} (h : PO X e t) (m : ∀ σ H Q, t' σ H Q → t σ H Q) : PO X e t' := ⟨fun pins s σ H Q I q => h.run pins s σ H Q I (m _ _ _ q)⟩
theorem so_none : PO X none (tOp' k noI E) := po_none.imp fun σ H Q ⟨c, Γ, F, W, so, po⟩ => po none F W H so (Same.refl F) rfl
theorem so_some (h : PE X e (tE k f E)) : PO X (some e) (tOp' k (soI f) E) := (po_some h).imp fun σ H Q ⟨c, Γ, F, W, so, po⟩ => ⟨c, Γ, F, W, so, po.seq fun r Γ1 x F1 W1 H1 so1 sm1 r1 po1 => by
  split at po1
  · rename_i i hi
    exact ⟨i, (so1.rd r1 hi).int, po1 _ F1 W1 H1 so1 (Same.refl F1) rfl⟩
  · exact po1.elim⟩
def cutL (ds : List D) (lo hi : Option Int) : List D := (ds.drop (HT.sIx ds.length 0 lo)).take (HT.sIx ds.length ds.length hi - HT.sIx ds.length 0 lo)
def dSl : D → Option Int → Option Int → Option R := fun a lo hi => match a with
  | .list ds => some (.own (.lst (cutL ds lo hi)))
  | .str z => if z.length ≤ 1000000 then some (.val (.str (cutS z lo hi))) else none
  | _ => none
def slc (f : M R) (lo hi : M (Option Int)) : M R := f.bnd fun r => (hold r).bnd fun r => lo.bnd fun l => hi.bnd fun h Γ => match rdD Γ r with
  | some d => (match dSl d l h with
    | some x => .ok x Γ
    | none => .bad)
  | none => .bad
theorem se_slice {lo hi : Option Expr} {fl fh : M (Option Int)} (hk : X.K = k.K) (ha : PE X a (tE k fa E)) (hl : PO X lo (tOp' k fl E)) (hh : PO X hi (tOp' k fh E)) : PE X (.Subscript a (.Slice lo hi none p2) pos) (tE k (slc fa fl fh) E) :=
  (pe_slice (sl_list.or sl_str) ha hl hh).imp fun σ H Q ⟨c, Γ, F, W, so, po⟩ => ⟨c, Γ, F, W, so, po.seq fun ra Γ1 x F1 W1 H1 so1 sm1 r1 po1 => by
    obtain ⟨ra', F2, W2, so2, sm2, ⟨r2, hn⟩, po2⟩ := hold_step so1 r1 po1
    refine ⟨c, Γ1, F2, W2, so2, po2.seq fun l Γ3 l' F3 W3 H3 so3 sm3 r3 po3 => ?_⟩
    subst r3
    refine ⟨c, Γ3, F3, W3, so3, po3.seq fun h Γ4 h' F4 W4 H4 so4 sm4 r4 po4 => ?_⟩
    subst r4
    split at po4
    · rename_i d hd
      have rd := so4.rd (r2.keep hn (sm3.trans sm4)) hd
      split at po4
      · rename_i res hr
        unfold dSl at hr
        split at hr
        · rename_i ds
          cases hr
          obtain ⟨p, vs, rfl, hp, dt⟩ := rd.lst so4.sub
          refine .inl ⟨p, vs, rfl, SqL.of hp, newLst so4 ?_ po4⟩
          unfold cutL
          rw [← dt.length]
          exact (dt.drop _).take _
        · rename_i z
          split at hr
          · rename_i hz
            cases hr
            exact .inr ⟨z, rd.str, mil hz, Fin.here so4 po4 (.str _)⟩
          · cases hr
        · cases hr
      · exact po4.elim
    · exact po4.elim⟩
def revR (f : M R) : M R := f.bnd fun r => un1 (fun d => match d with
  | .list ds => some (.own (.lst ds.reverse))
  | _ => none) r
theorem se_rev {n : Nat} {p1 p3 : Pos} (hk : X.K = k.K) (ha : PE X a (tE k fa E)) : PE X (.Subscript a (.Slice none none (some (.UnaryOp .USub (.Constant (.int 1) n p1) p2)) p3) pos) (tE k (revR fa) E) :=
  (pe_revL ha).imp fun σ H Q ⟨c, Γ, F, W, so, po⟩ => ⟨c, Γ, F, W, so, po.seq fun ra Γ1 x F1 W1 H1 so1 sm1 r1 po1 => by
    unfold un1 at po1
    split at po1
    · rename_i d hd
      have rd := so1.rd r1 hd
      split at po1
      · rename_i res hr
        dsimp only at hr
        split at hr
        · rename_i ds
          cases hr
          obtain ⟨p, vs, rfl, hp, dt⟩ := rd.lst so1.sub
          exact ⟨p, vs, rfl, SqL.of hp, newLst so1 dt.reverse po1⟩
        · cases hr
      · exact po1.elim
    · exact po1.elim⟩
/-! built-ins of one argument -/
theorem se_callB {id : String} {x : Str} {es : List Expr} {r : List V → Hp → VK → Prop} {dc : List D → Option R} {fs : M (List R)} (hc : CallR X (.builtin id) r) (hs : CallS k r dc) (hg : Gl X x) (hm : X.mg x = none) (hv : bootBuiltins x = some (.builtin id)) (ha : PA X (e :: es) (tA k fs E)) (hn : x ≠ "__name__" := by decide) (hdb : (x == ("__debug__" : Str)) = false := by decide)
    (he : starEach (e :: es) X.env = (false, eval e X.env) :: starEach es X.env := by rfl) (hpl : (backTo pos (starEach es X.env)).any (·.1) = false := by rfl) : PE X (.Call (.Name x p) (e :: es) [] pos) (tE k (callD dc fs) E) :=
  (pe_callB hc hg hm hv ha hn hdb he hpl).imp (callD_ok hs)
theorem se_callTy {T : String} {x : Str} {es : List Expr} {r : List V → Hp → VK → Prop} {dc : List D → Option R} {fs : M (List R)} (hc : CallR X (.type T) r) (hs : CallS k r dc) (hg : Gl X x) (hm : X.mg x = none) (hv : bootBuiltins x = some (.type T)) (ha : PA X (e :: es) (tA k fs E)) (hn : x ≠ "__name__" := by decide) (hdb : (x == ("__debug__" : Str)) = false := by decide)
    (he : starEach (e :: es) X.env = (false, eval e X.env) :: starEach es X.env := by rfl) (hpl : (backTo pos (starEach es X.env)).any (·.1) = false := by rfl) : PE X (.Call (.Name x p) (e :: es) [] pos) (tE k (callD dc fs) E) :=
  (pe_callTy hc hg hm hv ha hn hdb he hpl).imp (callD_ok hs)
theorem RdyAll.one {F H : Hp} {vs : List V} {d : D} (h : RdyAll F H vs [d]) : ∃ v, vs = [v] ∧ Rdy F H v d := by
  cases h with | cons a t => cases t; exact ⟨_, rfl, a⟩
theorem RdyAll.two {F H : Hp} {vs : List V} {d d' : D} (h : RdyAll F H vs [d, d']) : ∃ v v', vs = [v, v'] ∧ Rdy F H v d ∧ Rdy F H v' d' := by
  cases h with | cons a t => cases t with | cons b t => cases t; exact ⟨_, _, rfl, a, b⟩
def dLen : List D → Option R
  | [.list ds] => some (.val (.int ds.length))
  | [.tuple ds] => some (.val (.int ds.length))
  | [.str z] => if z.length ≤ 1000000 then some (.val (.int z.length)) else none
  | _ => none
theorem cS_len : CallS k (fun xs H Q => ∃ x n, xs = [x] ∧ LenV k.K x H n ∧ Q (.int n) H) dLen := fun c Γ σ F W H xs ds res Q so rs e f => by
  unfold dLen at e
  split at e
  · cases e
    obtain ⟨v, rfl, r⟩ := rs.one
    obtain ⟨p, vs, rfl, hp, dt⟩ := r.lst so.sub
    exact ⟨_, _, rfl, .inl ⟨vs, SqL.of hp, rfl⟩, by rw [dt.length]; exact Fin.here so f (.int _)⟩
  · cases e
    obtain ⟨v, rfl, r⟩ := rs.one
    obtain ⟨p, vs, rfl, _, hp, dt⟩ := r.tup so.sub
    exact ⟨_, _, rfl, .inr ⟨vs, SqT.of hp, rfl⟩, by rw [dt.length]; exact Fin.here so f (.int _)⟩
  · split at e
    · rename_i hz
      cases e
      obtain ⟨v, rfl, r⟩ := rs.one
      rw [r.str]
      exact ⟨_, _, rfl, ⟨mil hz, rfl⟩, Fin.here so f (.int _)⟩
    · cases e
  · cases e
theorem call_len' (hk : X.K = k.K) : CallR X (.builtin "len") (fun xs H Q => ∃ x n, xs = [x] ∧ LenV k.K x H n ∧ Q (.int n) H) := by rw [← hk]; exact call_len
def boolsOf : List D → Option (List Bool)
  | [] => some []
  | .bool b :: ds => (boolsOf ds).map (b :: ·)
  | _ :: _ => none
theorem boolsOf_ok : ∀ {ds : List D} {bs : List Bool}, boolsOf ds = some bs → ds = bs.map PyData.bool
  | [], bs, e => by cases e; rfl
  | d :: ds, bs, e => by
    cases d with
    | bool b =>
      simp only [boolsOf, Option.map_eq_some_iff] at e
      obtain ⟨bs', e1, rfl⟩ := e
      rw [boolsOf_ok e1]; rfl
    | _ => cases e
def intsOf : List D → Option (List Int)
  | [] => some []
  | .int b :: ds => (intsOf ds).map (b :: ·)
  | _ :: _ => none
theorem intsOf_ok : ∀ {ds : List D} {bs : List Int}, intsOf ds = some bs → ds = bs.map PyData.int
  | [], bs, e => by cases e; rfl
  | d :: ds, bs, e => by
    cases d with
    | int b =>
      simp only [intsOf, Option.map_eq_some_iff] at e
      obtain ⟨bs', e1, rfl⟩ := e
      rw [intsOf_ok e1]; rfl
    | _ => cases e
def strsOf : List D → Option (List Str)
  | [] => some []
  | .str b :: ds => (strsOf ds).map (b :: ·)
  | _ :: _ => none
theorem strsOf_ok : ∀ {ds : List D} {bs : List Str}, strsOf ds = some bs → ds = bs.map PyData.str
  | [], bs, e => by cases e; rfl
  | d :: ds, bs, e => by
    cases d with
    | str b =>
      simp only [strsOf, Option.map_eq_some_iff] at e
      obtain ⟨bs', e1, rfl⟩ := e
      rw [strsOf_ok e1]; rfl
    | _ => cases e
def dAll : List D → Option R
  | [.list ds] => (boolsOf ds).map fun bs => .val (.bool (bs.all id))
  | _ => none
theorem cS_all : CallS k (rAll k.K) dAll := fun c Γ σ F W H xs ds res Q so rs e f => by
  unfold dAll at e
  split at e
  · obtain ⟨bs, e1, rfl⟩ := Option.map_eq_some_iff.mp e
    obtain ⟨v, rfl, r⟩ := rs.one
    rw [boolsOf_ok e1] at r
    obtain ⟨p, vs, rfl, hp, dt⟩ := r.lst so.sub
    rw [dt.bools] at hp
    exact ⟨p, bs, rfl, SqL.of hp, Fin.here so f (.bl _)⟩
  · cases e
theorem cr_all' (hk : X.K = k.K) (hc : X.calm = true) : CallR X (.builtin "all") (rAll k.K) := by rw [← hk]; exact cr_all hc
def dList : List D → Option R
  | [.list ds] => some (.own (.lst ds))
  | [.tuple ds] => some (.own (.lst ds))
  | _ => none
theorem cS_list : CallS k (fun xs H Q => ∃ p ys, xs = [.ref p] ∧ (SqL k.K H p ys ∨ SqT k.K H p ys) ∧ ∀ l, H l = none → Q (.ref l) (upd H l (.lst ys))) dList := fun c Γ σ F W H xs ds res Q so rs e f => by
  unfold dList at e
  split at e
  · cases e
    obtain ⟨v, rfl, r⟩ := rs.one
    obtain ⟨p, vs, rfl, hp, dt⟩ := r.lst so.sub
    exact ⟨p, vs, rfl, .inl (SqL.of hp), newLst so dt f⟩
  · cases e
    obtain ⟨v, rfl, r⟩ := rs.one
    obtain ⟨p, vs, rfl, _, hp, dt⟩ := r.tup so.sub
    exact ⟨p, vs, rfl, .inr (SqT.of hp), newLst so dt f⟩
  · cases e
theorem call_list' (hk : X.K = k.K) : CallR X (.type "list") (fun xs H Q => ∃ p ys, xs = [.ref p] ∧ (SqL k.K H p ys ∨ SqT k.K H p ys) ∧ ∀ l, H l = none → Q (.ref l) (upd H l (.lst ys))) := by rw [← hk]; exact call_list_of
def dTuple : List D → Option R
  | [.list ds] => some (.val (.tuple ds))
  | [.tuple ds] => some (.val (.tuple ds))
  | _ => none
theorem cS_tuple : CallS k (fun xs H Q => ∃ p ys, xs = [.ref p] ∧ ((SqL k.K H p ys ∧ ∀ l, H l = none → Q (.ref l) (upd H l (.tup ys))) ∨ (SqT k.K H p ys ∧ Q (.ref p) H))) dTuple := fun c Γ σ F W H xs ds res Q so rs e f => by
  unfold dTuple at e
  split at e
  · cases e
    obtain ⟨v, rfl, r⟩ := rs.one
    obtain ⟨p, vs, rfl, hp, dt⟩ := r.lst so.sub
    exact ⟨p, vs, rfl, .inl ⟨SqL.of hp, newTup so dt f⟩⟩
  · cases e
    obtain ⟨v, rfl, r⟩ := rs.one
    obtain ⟨p, vs, rfl, fp, hp, dt⟩ := r.tup so.sub
    exact ⟨p, vs, rfl, .inr ⟨SqT.of hp, Fin.here so f (.tup fp dt)⟩⟩
  · cases e
theorem call_tuple' (hk : X.K = k.K) : CallR X (.type "tuple") (fun xs H Q => ∃ p ys, xs = [.ref p] ∧ ((SqL k.K H p ys ∧ ∀ l, H l = none → Q (.ref l) (upd H l (.tup ys))) ∨ (SqT k.K H p ys ∧ Q (.ref p) H))) := by rw [← hk]; exact call_tuple_of
/-! str, int -/
theorem log_small {i : Int} (h : small62 i = true) : i.natAbs.log2 < 1920 := by
  simp only [small62, Bool.and_eq_true, decide_eq_true_eq] at h
  by_cases h0 : i.natAbs = 0
  · rw [h0]; decide
  · rw [Nat.log2_lt h0]
    have : i.natAbs < 2 ^ 30 := by omega
    exact Nat.lt_of_lt_of_le this (Nat.pow_le_pow_right (by decide) (by decide))
def dStr : List D → Option R
  | [.int i] => if small62 i then some (.val (.str (toString i))) else none
  | _ => none
theorem cS_str : CallS k (fun xs H Q => ∃ i, xs = [.int i] ∧ i.natAbs.log2 < 1920 ∧ Q (.str (toString i)) H) dStr := fun c Γ σ F W H xs ds res Q so rs e f => by
  unfold dStr at e
  split at e
  · rename_i i
    split at e
    · rename_i hz
      cases e
      exact ⟨i, rdy1 rs, log_small hz, Fin.here so f (.str _)⟩
    · cases e
  · cases e
def dInt : List D → Option R
  | [.str z] => if z.length ≤ 640 then (PySem.intText? z).map fun n => .val (.int n) else none
  | _ => none
theorem cS_int : CallS k (fun xs H Q => ∃ a n, xs = [.str a] ∧ PySem.intText? a = some n ∧ a.length ≤ 640 ∧ Q (.int n) H) dInt := fun c Γ σ F W H xs ds res Q so rs e f => by
  unfold dInt at e
  split at e
  · rename_i z
    split at e
    · rename_i hz
      obtain ⟨n, e1, rfl⟩ := Option.map_eq_some_iff.mp e
      obtain ⟨v, rfl, r⟩ := rs.one
      rw [r.str]
      exact ⟨z, n, rfl, e1, hz, Fin.here so f (.int _)⟩
    · cases e
  · cases e
/-! min, max, sum -/
def minL : List Int → Int
  | [] => 0
  | [a] => a
  | a :: b :: r => if a ≤ minL (b :: r) then a else minL (b :: r)
def maxL : List Int → Int
  | [] => 0
  | [a] => a
  | a :: b :: r => if maxL (b :: r) ≤ a then a else maxL (b :: r)
theorem minL_ok : ∀ {ns : List Int} {m : Int}, m ∈ ns → (∀ y, y ∈ ns → m ≤ y) → m = minL ns
  | [], m, h, _ => by cases h
  | [a], m, h, _ => by
    have : m = a := by simpa using h
    exact this
  | a :: b :: r, m, h, hm => by
    have key : minL (b :: r) ∈ b :: r := by
      clear h hm
      induction r generalizing b with
      | nil => simp [minL]
      | cons c r ih =>
        unfold minL
        split
        · simp
        · exact List.mem_cons_of_mem _ (ih c)
    unfold minL
    rcases List.mem_cons.mp h with rfl | h'
    · have := hm _ (List.mem_cons_of_mem _ key)
      rw [if_pos this]
    · have e := minL_ok h' fun y hy => hm y (List.mem_cons_of_mem _ hy)
      have := hm a (by simp)
      split
      · omega
      · exact e
theorem maxL_ok : ∀ {ns : List Int} {m : Int}, m ∈ ns → (∀ y, y ∈ ns → y ≤ m) → m = maxL ns
  | [], m, h, _ => by cases h
  | [a], m, h, _ => by
    have : m = a := by simpa using h
    exact this
  | a :: b :: r, m, h, hm => by
    have key : maxL (b :: r) ∈ b :: r := by
      clear h hm
      induction r generalizing b with
      | nil => simp [maxL]
      | cons c r ih =>
        unfold maxL
        split
        · simp
        · exact List.mem_cons_of_mem _ (ih c)
    unfold maxL
    rcases List.mem_cons.mp h with rfl | h'
    · have := hm _ (List.mem_cons_of_mem _ key)
      rw [if_pos this]
    · have e := maxL_ok h' fun y hy => hm y (List.mem_cons_of_mem _ hy)
      have := hm a (by simp)
      split
      · omega
      · exact e
def dMin : List D → Option R
  | [.list ds] => (match intsOf ds with
    | some (n :: ns) => some (.val (.int (minL (n :: ns))))
    | _ => none)
  | _ => none
def dMax : List D → Option R
  | [.list ds] => (match intsOf ds with
    | some (n :: ns) => some (.val (.int (maxL (n :: ns))))
    | _ => none)
  | _ => none
theorem cS_min : CallS k (rMin k.K) dMin := fun c Γ σ F W H xs ds res Q so rs e f => by
  unfold dMin at e
  split at e
  · split at e
    · rename_i n ns hi
      cases e
      obtain ⟨v, rfl, r⟩ := rs.one
      rw [intsOf_ok hi] at r
      obtain ⟨p, vs, rfl, hp, dt⟩ := r.lst so.sub
      rw [dt.ints] at hp
      exact ⟨p, _, rfl, SqL.of hp, by simp, fun m h1 h2 => by rw [minL_ok h1 h2]; exact Fin.here so f (.int _)⟩
    · cases e
  · cases e
theorem cS_max : CallS k (rMax k.K) dMax := fun c Γ σ F W H xs ds res Q so rs e f => by
  unfold dMax at e
  split at e
  · split at e
    · rename_i n ns hi
      cases e
      obtain ⟨v, rfl, r⟩ := rs.one
      rw [intsOf_ok hi] at r
      obtain ⟨p, vs, rfl, hp, dt⟩ := r.lst so.sub
      rw [dt.ints] at hp
      exact ⟨p, _, rfl, SqL.of hp, by simp, fun m h1 h2 => by rw [maxL_ok h1 h2]; exact Fin.here so f (.int _)⟩
    · cases e
  · cases e
theorem cr_min' (hk : X.K = k.K) (hc : X.calm = true) : CallR X (.builtin "min") (rMin k.K) := by rw [← hk]; exact cr_min hc
theorem cr_max' (hk : X.K = k.K) (hc : X.calm = true) : CallR X (.builtin "max") (rMax k.K) := by rw [← hk]; exact cr_max hc
def dSum : List D → Option R
  | [.list ds] => (intsOf ds).map fun ns => .val (.int ns.sum)
  | _ => none
theorem cS_sum : CallS k (rSum k.K) dSum := fun c Γ σ F W H xs ds res Q so rs e f => by
  unfold dSum at e
  split at e
  · obtain ⟨ns, hi, rfl⟩ := Option.map_eq_some_iff.mp e
    obtain ⟨v, rfl, r⟩ := rs.one
    rw [intsOf_ok hi] at r
    obtain ⟨p, vs, rfl, hp, dt⟩ := r.lst so.sub
    rw [dt.ints] at hp
    exact ⟨p, _, rfl, SqL.of hp, Fin.here so f (.int _)⟩
  · cases e
theorem cr_sum' (hk : X.K = k.K) (hc : X.calm = true) : CallR X (.builtin "sum") (rSum k.K) := by rw [← hk]; exact cr_sum hc
def dMax2 : List D → Option R
  | [.int i, .int j] => some (.val (.int (if j > i then j else i)))
  | _ => none
theorem cS_max2 : CallS k (fun xs H Q => ∃ i j, xs = [.int i, .int j] ∧ Q (.int (if j > i then j else i)) H) dMax2 := fun c Γ σ F W H xs ds res Q so rs e f => by
  unfold dMax2 at e
  split at e
  · cases e
    exact ⟨_, _, rdy2 rs, Fin.here so f (.int _)⟩
  · cases e
def dMin2 : List D → Option R
  | [.int i, .int j] => some (.val (.int (if j < i then j else i)))
  | _ => none
theorem cS_min2 : CallS k (fun xs H Q => ∃ i j, xs = [.int i, .int j] ∧ Q (.int (if j < i then j else i)) H) dMin2 := fun c Γ σ F W H xs ds res Q so rs e f => by
  unfold dMin2 at e
  split at e
  · cases e
    exact ⟨_, _, rdy2 rs, Fin.here so f (.int _)⟩
  · cases e
/-! isinstance(x, T) -/
def tyD : D → Option String
  | .none => some "NoneType"
  | .bool _ => some "bool"
  | .int _ => some "int"
  | .str _ => some "str"
  | .list _ => some "list"
  | .tuple _ => some "tuple"
  | .dict _ => none
def isiT : String → String → Option Bool
  | "NoneType", "int" => some false
  | "bool", "int" => some true
  | "int", "int" => some true
  | "str", "int" => some false
  | "list", "int" => some false
  | "tuple", "int" => some false
  | "NoneType", "bool" => some false
  | "bool", "bool" => some true
  | "int", "bool" => some false
  | "str", "bool" => some false
  | "list", "bool" => some false
  | "tuple", "bool" => some false
  | "NoneType", "list" => some false
  | "bool", "list" => some false
  | "int", "list" => some false
  | "str", "list" => some false
  | "list", "list" => some true
  | "tuple", "list" => some false
  | "NoneType", "tuple" => some false
  | "bool", "tuple" => some false
  | "int", "tuple" => some false
  | "str", "tuple" => some false
  | "list", "tuple" => some false
  | "tuple", "tuple" => some true
  | "NoneType", "str" => some false
  | "bool", "str" => some false
  | "int", "str" => some false
  | "str", "str" => some true
  | "list", "str" => some false
  | "tuple", "str" => some false
  | _, _ => none
theorem isiT_ok {a b : String} {r : Bool} (h : isiT a b = some r) : kitB a b = some r := by
  unfold isiT at h
  split at h <;> first | (cases h; decide +kernel) | cases h
def dIsi (T : String) : D → Option R := fun d => match tyD d with
  | some s => (isiT s T).map fun b => .val (.bool b)
  | none => none
theorem Rdy.ty {F H : Hp} {v : V} {d : D} {s : String} (h : Rdy F H v d) (sm : Same F H) (e : tyD d = some s) : TyX k.K H v (.type s) := by
  cases d with
  | none => cases e; rw [h.non]; exact .base .non
  | bool b => cases e; rw [h.bl]; exact .base (.bl b)
  | int i => cases e; rw [h.int]; exact .base (.int i)
  | str z => cases e; rw [h.str]; exact .base (.str z)
  | list ds => cases e; obtain ⟨p, vs, rfl, hp, dt⟩ := h.lst sm; exact .base (.lst hp)
  | tuple ds => cases e; obtain ⟨p, vs, rfl, _, hp, dt⟩ := h.tup sm; exact .base (.tup hp)
  | dict _ => cases e
def isi (T : String) (f : M R) : M R := f.bnd fun r => un1 (dIsi T) r
theorem se_isi {T : Str} {n : String} {pt : Pos} (hk : X.K = k.K) (hg : Gl X "isinstance") (hm : X.mg "isinstance" = none) (hgT : Gl X T) (hmT : X.mg T = none) (hvT : bootBuiltins T = some (.type n)) (ha : PE X a (tE k fa E)) (hnT : T ≠ "__name__" := by decide) (hdT : (T == ("__debug__" : Str)) = false := by decide)
    (he : starEach [a, .Name T pt] X.env = (false, eval a X.env) :: starEach [.Name T pt] X.env := by rfl) (he2 : starEach [.Name T pt] X.env = (false, eval (.Name T pt) X.env) :: starEach [] X.env := by rfl) (hpl : (backTo pos (starEach [.Name T pt] X.env)).any (·.1) = false := by rfl) :
    PE X (.Call (.Name "isinstance" p) [a, .Name T pt] [] pos) (tE k (isi n fa) E) :=
  (pe_callB call_isi hg hm (by decide +kernel) (pa_cons ha (pa_cons (pe_bltn (v := .ty n) hgT hmT hvT rfl hnT hdT) pa_nil he2) he) (by decide) (by decide) he hpl).imp fun σ H Q ⟨c, Γ, F, W, so, po⟩ => ⟨c, Γ, F, W, so, po.seq fun r Γ1 x F1 W1 H1 so1 sm1 r1 po1 => by
    unfold un1 at po1
    split at po1
    · rename_i d hd
      have rd := so1.rd r1 hd
      split at po1
      · rename_i res hr
        unfold dIsi at hr
        split at hr
        · rename_i s hs
          obtain ⟨b, e1, rfl⟩ := Option.map_eq_some_iff.mp hr
          rw [hk]
          exact ⟨_, _, _, _, b, rfl, .ty n, rd.ty so1.sub hs, kit_ty (isiT_ok e1), Fin.here so1 po1 (.bl b)⟩
        · cases hr
      · exact po1.elim
    · exact po1.elim⟩
end
end Rt
namespace Rt
open PySem PySem.Spec PyProof.Rows L2
section
variable {k : Kx} {X : Cx} {E : L2.St → XK} {pos p p2 apos : Pos} {e a b : Expr} {fa fb f : M R}
/-! list(range(..)) -/
def rg3 : List D → Option (List D)
  | [.int i, .int j, .int c] => if small62 i && small62 j && decide (0 < c) && decide (c < 1000) && decide ((j - i).toNat ≤ 1000000) then some ((List.range ((j - i + c - 1) / c).toNat).map fun n => .int (i + (n : Nat) * c)) else none
  | _ => none
def lRg (g : List D → Option (List D)) (fs : M (List R)) : M R := (iRg g fs).bnd fun ds => if ds.length ≤ 1000000 then M.ret (.own (.lst ds)) else M.bad
theorem DtAll.rng {F : Hp} (lo : Int) (n : Nat) : DtAll F ((List.range n).map fun i => V.int (lo + (i : Nat))) (rngL lo n) := by
  unfold rngL
  induction n with
  | zero => exact .nil
  | succ n ih =>
    rw [List.range_succ, List.map_append, List.map_append]
    exact ih.append (.cons (.int _) .nil)
theorem se_lrg1 {q q2 : Pos} (hc : X.calm = true) (hg : Gl X "list") (hm : X.mg "list" = none) (hg2 : Gl X "range") (hm2 : X.mg "range" = none) (ha : PE X a (tE k fa E)) (na : starEach [a] X.env = (false, eval a X.env) :: starEach [] X.env := by rfl)
    (nb : starEach [.Call (.Name "range" q) [a] [] q2] X.env = (false, eval (.Call (.Name "range" q) [a] [] q2) X.env) :: starEach [] X.env := by rfl) :
    PE X (.Call (.Name "list" p) [.Call (.Name "range" q) [a] [] q2] [] pos) (tE k (lRg rg1 (aLast fa)) E) :=
  (pe_listRg hc hg hm (prg_1 hg2 hm2 ha na) nb).imp fun σ H Q ⟨c, Γ, F, W, so, po⟩ => by
    have e1 : lRg rg1 (aLast fa) = fa.bnd fun r Γ => match rdAll Γ [r] with
      | some ds => (match rg1 ds with
        | some l => if l.length ≤ 1000000 then .ok (.own (.lst l)) Γ else .bad
        | none => .bad)
      | none => .bad := by
      funext Γ
      simp only [lRg, iRg, aLast, M.bnd, M.ret]
      cases fa Γ with
      | ok r g =>
        dsimp only
        cases rdAll g [r] with
        | none => rfl
        | some ds =>
          dsimp only
          cases rg1 ds with
          | none => rfl
          | some l =>
            dsimp only
            split <;> rfl
      | _ => rfl
    have po : Post k c σ F E (ROk k) (lRg rg1 (aLast fa) Γ) Q := po
    rw [e1] at po
    refine ⟨c, Γ, F, W, so, po.seq fun r Γ1 x F1 W1 H1 so1 sm1 r1 po1 => ?_⟩
    split at po1
    · rename_i ds hd
      split at po1
      · rename_i l hl
        split at po1
        · rename_i hz
          unfold rg1 at hl
          split at hl
          · rename_i j
            split at hl
            · rename_i hs
              cases hl
              obtain ⟨z1, z2⟩ := small62_ok hs
              have ev := rdy1 (so1.rdA (.cons r1 .nil) hd)
              injection ev with ev
              refine ⟨j, ev, ⟨by decide, by decide, z1, z2, ?_⟩, newLst so1 ?_ po1⟩
              · have : j.toNat ≤ 1000000 := by simpa [rngL] using hz
                have h2 : (j - 0).toNat = j.toNat := by rw [Int.sub_zero]
                rw [h2]; omega
              · unfold rgV
                have h2 : (j - 0).toNat = j.toNat := by rw [Int.sub_zero]
                rw [h2]
                exact DtAll.rng 0 j.toNat
            · cases hl
          · cases hl
        · exact po1.elim
      · exact po1.elim
    · exact po1.elim
/-- two ints -/
theorem se_lrg2 {q q2 : Pos} (hc : X.calm = true) (hg : Gl X "list") (hm : X.mg "list" = none) (hg2 : Gl X "range") (hm2 : X.mg "range" = none) (ha : PE X a (tE k fa E)) (hb : PE X b (tE k fb E)) (na : starEach [a, b] X.env = (false, eval a X.env) :: starEach [b] X.env := by rfl)
    (nb : starEach [b] X.env = (false, eval b X.env) :: starEach [] X.env := by rfl) (hp : (backTo q2 (starEach [b] X.env)).any (·.1) = false := by rfl)
    (nc : starEach [.Call (.Name "range" q) [a, b] [] q2] X.env = (false, eval (.Call (.Name "range" q) [a, b] [] q2) X.env) :: starEach [] X.env := by rfl) :
    PE X (.Call (.Name "list" p) [.Call (.Name "range" q) [a, b] [] q2] [] pos) (tE k (bin (fun x y => (rg2 [x, y]).bind fun l => if l.length ≤ 1000000 then some (.own (.lst l)) else none) fa fb) E) :=
  (pe_listRg hc hg hm (prg_2 hg2 hm2 ha hb na nb hp) nc).imp fun σ H Q h => by
    refine bin_ok (r := fun x y H Q => ∃ i j, x = .int i ∧ y = .int j ∧ (RgOk i j ∧ ∀ q, H q = none → Q (.ref q) (upd H q (.lst (rgV i j))))) ?_ σ H Q h
    intro c Γ σ F W H x y da db res Q so rx ry e1 f
    obtain ⟨l, e2, e3⟩ := Option.bind_eq_some_iff.mp e1
    split at e3
    · rename_i hz
      cases e3
      unfold rg2 at e2
      split at e2
      · rename_i i j hds
        injection hds with h1 h2
        injection h2 with h2 _
        subst h1 h2
        split at e2
        · rename_i hs
          cases e2
          obtain ⟨hz1, hz2⟩ := Bool.and_eq_true_iff.mp hs
          obtain ⟨z1, z2⟩ := small62_ok hz1
          obtain ⟨z3, z4⟩ := small62_ok hz2
          refine ⟨i, j, rx.int, ry.int, ⟨z1, z2, z3, z4, ?_⟩, newLst so (DtAll.rng i _) f⟩
          have : (j - i).toNat ≤ 1000000 := by simpa [rngL] using hz
          omega
        · cases e2
      · cases e2
    · cases e3
def tLstRg3 (ta : TA) : TE := fun σ H Q => ta σ H fun vs H1 => ∃ (i j c : Int) (n : Nat), vs = [.int i, .int j, .int c] ∧ RgC i j c n ∧ n ≤ 2 ^ 24 ∧ ∀ q, H1 q = none → Q (.ref q) (upd H1 q (.lst ((List.range n).map fun m => V.int (i + (m : Nat) * c))))
theorem vals_rg3 {i c : Int} {n : Nat} {acc : Array Value} (h : ItemsOf (fun m v => ∃ t, v = .int (i + m * c) t) acc n) : Vals ((List.range n).map fun m => V.int (i + (m : Nat) * c)) acc.toList := by
  obtain ⟨h1, h2⟩ := h
  have e : acc.toList.length = n := by simpa using h1
  have := vals_of_get acc.toList (fun m => V.int (i + (m : Nat) * c)) fun j u hj => by
    obtain ⟨t, h4⟩ := h2 j u (by simpa using hj)
    exact ⟨t, h4⟩
  rw [e] at this
  exact this
theorem pe_listRg3 {c : Expr} {ta : TA} {q q2 : Pos} (hc : X.calm = true) (hg : Gl X "list") (hm : X.mg "list" = none) (hg2 : Gl X "range") (hm2 : X.mg "range" = none) (ha : PA X [a, b, c] ta)
    (hs : starEach [a, b, c] X.env = (false, eval a X.env) :: starEach [b, c] X.env := by rfl) (hpl : (backTo q2 (starEach [b, c] X.env)).any (·.1) = false := by rfl)
    (na : starEach [.Call (.Name "range" q) [a, b, c] [] q2] X.env = (false, eval (.Call (.Name "range" q) [a, b, c] [] q2) X.env) :: starEach [] X.env := by rfl) :
    PE X (.Call (.Name "list" p) [.Call (.Name "range" q) [a, b, c] [] q2] [] pos) (tLstRg3 ta) := by
  refine ⟨fun pins s σ H Q I h => ?_⟩
  refine Call_ (ld_blt I hg hm boot_list (PyProof.Rows.callWith_type1 (args_cons (Call_ (ld_blt I hg2 hm2 boot_range (PyProof.Rows.callWith_type1 (thn (ha.run q2 pins s σ H _ I h) fun us s1 ⟨vs, H1, I1, r1, q1⟩ => ?_) hs hpl))) na) na))
  obtain ⟨i, j, k, n, e, ⟨c0, c1, c2, c3⟩, hn, q⟩ := q1
  subst e
  cases r1 with
  | cons r rr =>
    cases rr with
    | cons r' rr =>
      cases rr with
      | cons r'' rr =>
        cases rr
        obtain ⟨t, rfl⟩ := r
        obtain ⟨t', rfl⟩ := r'
        obtain ⟨t'', rfl⟩ := r''
        refine call_range_3 c0 (args_nil ?_) (.inl (PyProof.noPylong_small c1))
        have I2 : Inv X pins σ H1 { s1 with heap := s1.heap.push { cls := .type "range", data := .fields #[.int i t, .int j t', .int k t''] } } := I1.kept (t' := s1.toks) fun b o e => Heap.get?_push_of_some _ e
        refine call_list_range (n := n) (I2.ok.hd hc) (IsRange.new ..) c2 c3 hn fun h' tk acc c' hk e' hi => ?_
        refine ⟨.ref _, upd H1 _ (.lst _), I2.laid hk (Nat.le_refl _) (show ObjOk X.prog X.w _ _ _ (.lst _) from ⟨?_, acc.toList, c', vals_rg3 hi, ?_⟩), rfl, q _ (I2.hok.fresh (Nat.le_refl _))⟩
        · rw [List.length_map, List.length_range, sizeLine_eq]; omega
        · rw [Array.toArray_toList]; exact e'
theorem rgc_of {i j c : Int} (h1 : small62 i = true) (h2 : small62 j = true) (h3 : 0 < c) (h4 : c < 1000) : RgC i j c ((j - i + c - 1) / c).toNat := by
  simp only [small62, Bool.and_eq_true, decide_eq_true_eq] at h1 h2
  have hz : Builtin.Range.rangeSize i j c = ((((j - i + c - 1) / c).toNat : Nat) : Int) := by
    unfold Builtin.Range.rangeSize
    rw [if_pos h3]
    by_cases hij : i < j
    · rw [if_pos hij]
      have e : j - i + c - 1 = (j - i - 1) + c * 1 := by omega
      rw [e, Int.add_mul_ediv_left _ _ (by omega)]
      have : 0 ≤ (j - i - 1) / c := Int.ediv_nonneg (by omega) (by omega)
      omega
    · rw [if_neg hij]
      have : (j - i + c - 1) / c ≤ 0 := by
        by_cases h0 : 0 ≤ j - i + c - 1
        · rw [Int.ediv_eq_zero_of_lt h0 (by omega)]; omega
        · exact Int.le_of_lt (Int.ediv_neg_of_neg_of_pos (by omega) h3)
      omega
  refine ⟨by omega, by omega, ?_, hz⟩
  have hn : 0 ≤ Builtin.Range.rangeSize i j c ∧ Builtin.Range.rangeSize i j c * c < 3000000000 := by
    rw [hz]
    refine ⟨by omega, ?_⟩
    by_cases h0 : 0 ≤ (j - i + c - 1) / c
    · rw [Int.toNat_of_nonneg h0]
      have := Int.ediv_mul_le (j - i + c - 1) (by omega : c ≠ 0)
      omega
    · have : ((j - i + c - 1) / c).toNat = 0 := by omega
      rw [this]; simp
  unfold Builtin.Range.small
  generalize Builtin.Range.rangeSize i j c = N at hn
  have hN : N < 3000000000 := by
    by_cases h : N ≤ 0
    · omega
    · have : N * 1 ≤ N * c := Int.mul_le_mul_of_nonneg_left (by omega) hn.1
      omega
  simp only [Builtin.Range.rangeFitsLong, Bool.and_eq_true, Bool.or_eq_true, decide_eq_true_eq, beq_iff_eq]
  refine ⟨⟨⟨⟨⟨by omega, by omega⟩, by omega, by omega⟩, by omega, by omega⟩, by omega, by omega⟩, .inr ?_⟩
  rw [if_pos h3]
  simp only [Bool.and_eq_true, decide_eq_true_eq]
  omega

def dLrg3 : List D → Option R := fun ds => (rg3 ds).bind fun l => if l.length ≤ 1000000 then some (.own (.lst l)) else none
theorem DtAll.rng3 {F : Hp} (lo c : Int) (n : Nat) : DtAll F ((List.range n).map fun i => V.int (lo + (i : Nat) * c)) ((List.range n).map fun i => PyData.int (lo + (i : Nat) * c)) := by
  induction n with
  | zero => exact .nil
  | succ n ih =>
    rw [List.range_succ, List.map_append, List.map_append]
    exact ih.append (.cons (.int _) .nil)
theorem se_lrg3 {c : Expr} {fs : M (List R)} {q q2 : Pos} (hc : X.calm = true) (hg : Gl X "list") (hm : X.mg "list" = none) (hg2 : Gl X "range") (hm2 : X.mg "range" = none) (ha : PA X [a, b, c] (tA k fs E))
    (hs : starEach [a, b, c] X.env = (false, eval a X.env) :: starEach [b, c] X.env := by rfl) (hpl : (backTo q2 (starEach [b, c] X.env)).any (·.1) = false := by rfl)
    (na : starEach [.Call (.Name "range" q) [a, b, c] [] q2] X.env = (false, eval (.Call (.Name "range" q) [a, b, c] [] q2) X.env) :: starEach [] X.env := by rfl) :
    PE X (.Call (.Name "list" p) [.Call (.Name "range" q) [a, b, c] [] q2] [] pos) (tE k (callD dLrg3 fs) E) :=
  (pe_listRg3 hc hg hm hg2 hm2 ha hs hpl na).imp fun σ H Q h => by
    refine callD_ok (r := fun vs H1 Q => ∃ (i j c : Int) (n : Nat), vs = [.int i, .int j, .int c] ∧ RgC i j c n ∧ n ≤ 2 ^ 24 ∧ ∀ q, H1 q = none → Q (.ref q) (upd H1 q (.lst ((List.range n).map fun m => V.int (i + (m : Nat) * c))))) ?_ σ H Q h
    intro c Γ σ F W H xs ds res Q so rs e1 f
    unfold dLrg3 at e1
    obtain ⟨l, e2, e3⟩ := Option.bind_eq_some_iff.mp e1
    split at e3
    · rename_i hz
      cases e3
      unfold rg3 at e2
      split at e2
      · rename_i i j c
        split at e2
        · rename_i hs
          cases e2
          simp only [Bool.and_eq_true, decide_eq_true_eq] at hs
          obtain ⟨⟨⟨⟨s1, s2⟩, s3⟩, s4⟩, s5⟩ := hs
          refine ⟨i, j, c, _, rdy3 rs, rgc_of s1 s2 s3 s4, ?_, newLst so (DtAll.rng3 i c _) f⟩
          rw [List.length_map, List.length_range] at hz
          omega
        · cases e2
      · cases e2
    · cases e3
/-! methods of texts -/
def isS : D → Bool
  | .str _ => true
  | _ => false
def met1 (dm : D → D → Option R) (fo fe : M R) : M R := fo.bnd fun ro => (hold ro).bnd fun ro Γ => match rdD Γ ro with
  | some (.str _) => (fe.bnd fun re => op2 dm ro re) Γ
  | _ => .bad
theorem met1_ok {dm : D → D → Option R} {r : V → List V → Hp → VK → Prop} {fo fe : M R} (hs : OpS k (fun x y H Q => r x [y] H Q) dm) : ∀ σ H Q, tE k (met1 dm fo fe) E σ H Q → tM1 r (tE k fo E) (tE k fe E) σ H Q := fun σ H Q ⟨c, Γ, F, W, so, po⟩ =>
  ⟨c, Γ, F, W, so, po.seq fun ra Γ1 x F1 W1 H1 so1 sm1 r1 po1 => by
    obtain ⟨ra', F2, W2, so2, sm2, ⟨r2, hn⟩, po2⟩ := hold_step so1 r1 po1
    split at po2
    · rename_i z hz
      refine ⟨⟨z, (so2.rd r2 hz).str⟩, c, Γ1, F2, W2, so2, po2.seq fun rb Γ3 y F3 W3 H3 so3 sm3 r3 po3 => ?_⟩
      exact op2_ok (r := fun x y H Q => r x [y] H Q) hs so3 (r2.keep hn sm3) r3 po3
    · exact po2.elim⟩
def dSplit : D → D → Option R := fun x y => match x, y with
  | .str z, .str s => if s.length ≠ 0 ∧ z.length ≤ 1000000 then some (.own (.lst ((Txt.split z s).map PyData.str))) else none
  | _, _ => none
def dPart : D → D → Option R := fun x y => match x, y with
  | .str z, .str s => if s.length ≠ 0 ∧ z.length ≤ 1000000 then some (.val (.tuple [.str (Txt.partition z s).1, .str (Txt.partition z s).2.1, .str (Txt.partition z s).2.2])) else none
  | _, _ => none
def dJoin : D → D → Option R := fun x y => match x, y with
  | .str z, .list ds => (match strsOf ds with
    | some ys => if (ys.map (·.length)).sum + ys.length * z.length ≤ 1000000 then some (.val (.str (Txt.join z ys))) else none
    | none => none)
  | _, _ => none
theorem se_split (ha : PE X a (tE k fa E)) (hb : PE X b (tE k fb E)) (hs : starEach [b] X.env = [(false, eval b X.env)] := by rfl) (hbase : attributeBase a "split" X.env (eval a X.env) = eval a X.env := by rfl) (hline : (apos.endLine == pos.line) = true := by rfl) :
    PE X (.Call (.Attribute a "split" apos) [b] [] pos) (tE k (met1 dSplit fa fb) E) := (pe_split ha hb hs hbase hline).imp (met1_ok fun c Γ σ F W H x y da db res Q so rx ry e f => by
  unfold dSplit at e
  split at e
  · rename_i z s
    split at e
    · rename_i hz
      cases e
      exact ⟨z, s, rx.str, by rw [ry.str], by simpa using hz.1, (by rw [sizeLine_eq]; omega), newLst so (DtAll.of_strs _) f⟩
    · cases e
  · cases e)
theorem se_partition (ha : PE X a (tE k fa E)) (hb : PE X b (tE k fb E)) (hs : starEach [b] X.env = [(false, eval b X.env)] := by rfl) (hbase : attributeBase a "partition" X.env (eval a X.env) = eval a X.env := by rfl) (hline : (apos.endLine == pos.line) = true := by rfl) :
    PE X (.Call (.Attribute a "partition" apos) [b] [] pos) (tE k (met1 dPart fa fb) E) := (pe_partition ha hb hs hbase hline).imp (met1_ok fun c Γ σ F W H x y da db res Q so rx ry e f => by
  unfold dPart at e
  split at e
  · rename_i z s
    split at e
    · rename_i hz
      cases e
      exact ⟨z, s, rx.str, by rw [ry.str], by simpa using hz.1, mil hz.2, newTup so (.cons (.str _) (.cons (.str _) (.cons (.str _) .nil))) f⟩
    · cases e
  · cases e)
theorem se_join (hk : X.K = k.K) (ha : PE X a (tE k fa E)) (hb : PE X b (tE k fb E)) (hs : starEach [b] X.env = [(false, eval b X.env)] := by rfl) (hbase : attributeBase a "join" X.env (eval a X.env) = eval a X.env := by rfl) (hline : (apos.endLine == pos.line) = true := by rfl) :
    PE X (.Call (.Attribute a "join" apos) [b] [] pos) (tE k (met1 dJoin fa fb) E) := (pe_join ha hb hs hbase hline).imp (met1_ok fun c Γ σ F W H x y da db res Q so rx ry e f => by
  unfold dJoin at e
  split at e
  · rename_i z ds
    split at e
    · rename_i ys hy
      split at e
      · rename_i hz
        cases e
        rw [strsOf_ok hy] at ry
        obtain ⟨p, vs, rfl, hp, dt⟩ := ry.lst so.sub
        rw [dt.strs] at hp
        exact ⟨z, p, ys, rx.str, rfl, .inl (SqL.of hp), by omega, Fin.here so f (.str _)⟩
      · cases e
    · cases e
  · cases e)
/-! f-strings -/
def fmtR (f : M R) : M R := f.bnd fun r => un1 (fun d => match d with
  | .str z => if z.length ≤ 1000000 then some (.val (.str z)) else none
  | .int i => if small62 i then some (.val (.str (toString i))) else none
  | _ => none) r
theorem se_fmt (ha : PE X a (tE k fa E)) : PE X (.FormattedValue a (-1) none pos) (tE k (fmtR fa) E) := (pe_fmt ha).imp fun σ H Q ⟨c, Γ, F, W, so, po⟩ => ⟨c, Γ, F, W, so, po.seq fun r Γ1 x F1 W1 H1 so1 sm1 r1 po1 => by
  unfold un1 at po1
  split at po1
  · rename_i d hd
    have rd := so1.rd r1 hd
    split at po1
    · rename_i res hr
      dsimp only at hr
      split at hr
      · rename_i z
        split at hr
        · rename_i hz
          cases hr
          exact .inl ⟨z, rd.str, mil hz, Fin.here so1 po1 (.str _)⟩
        · cases hr
      · rename_i i
        split at hr
        · rename_i hz
          cases hr
          exact .inr ⟨i, rd.int, log_small hz, Fin.here so1 po1 (.str _)⟩
        · cases hr
      · cases hr
    · exact po1.elim
  · exact po1.elim⟩
/-- the parts, one behind the other -/
def jnM : List (M R) → Str → M R
  | [], acc => M.ret (.val (.str acc))
  | f :: fs, acc => f.bnd fun r Γ => match rdD Γ r with
    | some (.str y) => if (acc ++ y).length ≤ 1000000 then jnM fs (acc ++ y) Γ else .bad
    | _ => .bad
def tEs (k : Kx) (E : L2.St → XK) : List (M R) → List TE := List.map fun f => tE k f E
theorem jn_ok {Q : VK} : ∀ (fs : List (M R)) (acc : Str) (c : Gc) (Γ : En) (σ : L2.St) (F : Hp) (W : Wm) (H : Hp), SOk k c Γ σ F W H → Post k c σ F E (ROk k) (jnM fs acc Γ) Q → tJs (tEs k E fs) acc σ H fun out H1 => Q (.str out) H1
  | [], acc, c, Γ, σ, F, W, H, so, po => po _ F W H so (Same.refl F) (.str _)
  | f :: fs, acc, c, Γ, σ, F, W, H, so, po => by
    refine ⟨c, Γ, F, W, so, Post.seq po fun r Γ1 x F1 W1 H1 so1 sm1 r1 po1 => ?_⟩
    split at po1
    · rename_i y hy
      split at po1
      · rename_i hz
        exact ⟨y, (so1.rd r1 hy).str, mil hz, jn_ok fs _ c Γ1 σ F1 W1 H1 so1 po1⟩
      · exact po1.elim
    · exact po1.elim
theorem se_joined {v1 v2 : Expr} {rest : List Expr} {fs : List (M R)} (h : PJ X (v1 :: v2 :: rest) (tEs k E fs)) : PE X (.JoinedStr (v1 :: v2 :: rest) pos) (tE k (jnM fs Str.empty) E) :=
  (pe_joined h).imp fun σ H Q ⟨c, Γ, F, W, so, po⟩ => jn_ok fs _ c Γ σ F W H so po
theorem sj_nil : PJ X [] (tEs k E []) := .nil
theorem sj_cons {es : List Expr} {fs : List (M R)} (h : PE X e (tE k f E)) (r : PJ X es (tEs k E fs)) : PJ X (e :: es) (tEs k E (f :: fs)) := .cons h r
end
/-! ### stores into an object of one's own -/
section
variable {k : Kx} {c : Gc} {Γ : En} {σ : L2.St} {F : Hp} {W : Wm} {H : Hp}
theorem SOk.mut {i : Nat} {kk : Option Nat} {o o' : Ob} {q : Addr} {u : HO} (so : SOk k c Γ σ F W H) (hg : Γ[i]? = some (.own kk o)) (hσ : σ[i]? = some (some (.ref q))) (hw : W q = some (.slot i)) (hn : OwnOk k F (upd H q u) (fun a => W a = some (.slot i)) q o') : SOk k c (Γ.set i (.own kk o')) σ F W (upd H q u) := by
  refine ⟨fun b v e => ?_, fun a v e => ?_, fun a j e => ?_, fun j s hj => ?_, by simpa using so.len⟩
  · rw [upd_ne (fun z => by rw [z, (so.ow q _ hw).1] at e; cases e)]; exact so.sub b v e
  · obtain ⟨h1, h2, h3⟩ := so.fr a v e
    exact ⟨by rw [upd_ne (fun z => by rw [z, hw] at h3; cases h3)]; exact h1, h2, h3⟩
  · obtain ⟨h1, v, h2⟩ := so.ow a j e
    refine ⟨h1, ?_⟩
    by_cases ha : a = q
    · subst ha; exact ⟨u, upd_same⟩
    · exact ⟨v, by rw [upd_ne ha]; exact h2⟩
  · rcases set_cases hj with ⟨rfl, rfl⟩ | ⟨hne, hj⟩
    · obtain ⟨q', h1, h2, _⟩ := so.sl j _ hg
      rw [hσ] at h1; cases h1
      exact ⟨q, hσ, h2, hn⟩
    · refine (so.sl j s hj).keep (Same.refl F) fun a ha => ⟨ha, upd_ne fun z => ?_⟩
      rw [z, hw] at ha; cases ha; exact hne rfl
end
section
variable {k : Kx} {X : Cx} {E : L2.St → XK} {pos p p2 apos : Pos} {e a b : Expr} {fa fb f : M R}
theorem hold_stepS {c : Gc} {Γ : En} {σ : L2.St} {F : Hp} {W : Wm} {H : Hp} {v : V} {r : R} {g : R → M Fl} {D : Ends} (so : SOk k c Γ σ F W H) (x : ROk k σ F W H v r) (p : PostS k c F E ((hold r).bnd g Γ) D) :
    ∃ r' F' W', SOk k c Γ σ F' W' H ∧ Same F F' ∧ (ROk k σ F' W' H v r' ∧ ∀ o, r' ≠ .own o) ∧ PostS k c F' E (g r' Γ) D := by
  cases r with
  | val d => exact ⟨.val d, F, W, so, Same.refl F, ⟨x, fun _ z => nomatch z⟩, p⟩
  | bor i => exact ⟨.bor i, F, W, so, Same.refl F, ⟨x, fun _ z => nomatch z⟩, p⟩
  | own o =>
    cases o with
    | lst ds =>
      obtain ⟨a, rfl, hw, xs, hp, dt⟩ := x
      obtain ⟨so', sm, fa⟩ := so.freezeT hw hp
      exact ⟨.val (.list ds), _, _, so', sm, ⟨.lst fa (dt.mono sm), fun _ z => nomatch z⟩, p.mono sm⟩
    | _ => exact p.elim
theorem st_stepS {c : Gc} {Γ : En} {σ : L2.St} {F : Hp} {W : Wm} {H : Hp} {v : V} {r : R} {g : PyData → M Fl} {D : Ends} (so : SOk k c Γ σ F W H) (x : ROk k σ F W H v r) (p : PostS k c F E ((stD r).bnd g Γ) D) :
    ∃ d Γ' F' W', SOk k c Γ' σ F' W' H ∧ Same F F' ∧ Dt F' v d ∧ PostS k c F' E (g d Γ') D := by
  unfold M.bnd at p
  cases e : stD r Γ with
  | ok d Γ2 =>
    rw [e] at p
    have pz : Post k c σ F E (fun _ _ _ _ (_ : Unit) (_ : PyData) => True) ((stD r).bnd (fun d => M.ret d) Γ) (fun _ _ => True) := by
      unfold M.bnd; rw [e]; exact fun _ _ _ _ _ _ _ => trivial
    obtain ⟨d', Γ2', F2, W2, so2, sm2, dt, e', _⟩ := st_step so x pz
    rw [e] at e'; cases e'
    exact ⟨d, Γ2, F2, W2, so2, sm2, dt, p.mono sm2⟩
  | exc n g1 =>
    exfalso
    unfold stD at e
    split at e
    · cases e
    · cases e
    · cases e
    · split at e <;> cases e
  | bad => rw [e] at p; exact p.elim
/-- x.append(e), x the name in slot i -/
def appM (i : Nat) (f : M R) : M R := fun Γ => match Γ[i]? with
  | some (.own _ (.lst _)) => M.bnd f (fun r => (stD r).bnd fun d Γ => match Γ[i]? with
    | some (.own kk (.lst ds)) => if ds.length < 1000000 then .ok (.val .none) (Γ.set i (.own kk (.lst (ds ++ [d])))) else .bad
    | _ => .bad) Γ
  | _ => .bad
theorem lt_mil {n : Nat} (h : n < 1000000) : n < sizeLine := by rw [sizeLine_eq]; omega
theorem se_append {i : Nat} {x : Str} {px : Pos} (hk : X.K = k.K) (ho : PE X (.Name x px) (tVar i)) (he : PE X e (tE k f E)) (hbase : attributeBase (.Name x px) "append" X.env (eval (.Name x px) X.env) = eval (.Name x px) X.env := by rfl)
    (hfew : ((backTo pos (starEach [e] X.env)).all (fun x => !x.1) && (backToKw pos (keywordEach [] X.env)).all (fun x => x.1.isSome)
      && decide ([e].length + ([] : List Keyword).length + (if ([] : List Keyword).isEmpty then 0 else 1) < 30)) = true := by rfl)
    (hline : (apos.endLine == pos.line) = true := by rfl) (hs : starEach [e] X.env = (false, eval e X.env) :: starEach [] X.env := by rfl) :
    PE X (.Call (.Attribute (.Name x px) "append" apos) [e] [] pos) (tE k (appM i f) E) :=
  (pe_bm PySem.F.plainAttrs_list PySem.F.slot_list_append PySem.F.type_list_append mt_append ho (pa_cons he pa_nil hs) hbase hfew hline hs).imp fun σ H Q ⟨c, Γ, F, W, so, po⟩ => by
    simp only [appM] at po
    split at po
    · rename_i kk ds hg
      obtain ⟨q, hσ, _, hw, xs, hq, dt⟩ := so.sl i _ hg
      refine ⟨.ref q, hσ, .inl ⟨rfl, xs, SqL.of hq⟩, c, Γ, F, W, so, Post.seq po fun r Γ1 v F1 W1 H1 so1 sm1 r1 po1 => ?_⟩
      obtain ⟨d, Γ2, F2, W2, so2, sm2, dtv, _, po2⟩ := st_step so1 r1 po1
      split at po2
      · rename_i kk' ds' hg2
        split at po2
        · rename_i hz
          obtain ⟨q2, hσ2, _, hw2, xs2, hq2, dt2⟩ := so2.sl i _ hg2
          rw [hσ] at hσ2; cases hσ2
          refine ⟨q, xs2, v, rfl, rfl, hq2, by rw [dt2.length]; exact lt_mil hz, po2 .non F2 W2 _ (so2.mut hg2 hσ hw2 ⟨hw2, _, upd_same, dt2.append (.cons dtv .nil)⟩) (Same.refl F2) .non⟩
        · exact po2.elim
      · exact po2.elim
    · exact po.elim
/-- x += e -/
def augM (i : Nat) (f : M R) : M Fl := fun Γ => match Γ[i]? with
  | some (.val (.int _)) => M.bnd f (fun r Γ => match Γ[i]?, rdD Γ r with
    | some (.val (.int n)), some (.int j) => .ok .nx (Γ.set i (.val (.int (n + j))))
    | _, _ => .bad) Γ
  | some (.own _ (.lst _)) => M.bnd f (fun r => (hold r).bnd fun r Γ => match Γ[i]?, rdD Γ r with
    | some (.own kk (.lst ds)), some (.list es) => if ds.length + es.length ≤ 1000000 then .ok .nx (Γ.set i (.own kk (.lst (ds ++ es)))) else .bad
    | _, _ => .bad) Γ
  | _ => .bad
theorem set_same {σ : L2.St} {i : Nat} {v : V} (h : σ[i]? = some (some v)) : σ.set i (some v) = σ := by
  apply List.ext_getElem?
  intro m
  by_cases hm : m = i
  · subst hm
    rw [List.getElem?_set_self (List.getElem?_eq_some_iff.mp h).1]; exact h.symm
  · rw [List.getElem?_set_ne (Ne.symm hm)]
theorem ss_aug {i : Nat} {x : Str} {px : Pos} (hN : X.N.Nodup) (hi : X.N[i]? = some x) (hx : Loc X.env.scope x) (he : PE X e (tE k f E)) (hf : X.fn x = true ∨ X.env.scope.names.lookup x = some .local := by first | exact .inl rfl | exact .inr rfl | assumption) :
    PS X (.AugAssign (.Name x px) .Add e pos) (tS k (augM i f) E) :=
  (ps_aug (i := i) (ti := fun x y H Q => (rI0 fun i j => .int (i + j)) x y H Q ∨ rExt2 x y H Q) hN hi hx he (fun pins s σ H x y v u Q I rx ry q => (iop_add.or iop_ext) pins s σ H x y v u Q I rx ry q) hf).imp fun D σ H ⟨c, Γ, F, W, so, po⟩ => by
    simp only [augM] at po
    split at po
    · rename_i n hg
      obtain ⟨u, hσ, hd⟩ := so.sl i _ hg
      rw [hd.int_of] at hσ
      refine ⟨_, hσ, c, Γ, F, W, so, PostS.seqE po fun r Γ1 v F1 W1 H1 so1 sm1 r1 po1 => ?_⟩
      split at po1
      · rename_i m j hg1 hr1
        obtain ⟨u1, hσ1, hd1⟩ := so1.sl i _ hg1
        rw [hd1.int_of, hσ] at hσ1; cases hσ1
        refine .inl ⟨n, j, rfl, (so1.rd r1 hr1).int, po1 _ F1 W1 H1 (so1.setV (.int _) ?_) (Same.refl F1)⟩
        rw [← so1.len]
        exact (List.getElem?_eq_some_iff.mp hσ).1
      · exact po1.elim
    · rename_i kk ds hg
      obtain ⟨q, hσ, _, hw, xs, hq, dt⟩ := so.sl i _ hg
      refine ⟨_, hσ, c, Γ, F, W, so, PostS.seqE po fun r Γ1 v F1 W1 H1 so1 sm1 r1 po1 => ?_⟩
      obtain ⟨r', F2, W2, so2, sm2, ⟨r2, hn⟩, po2⟩ := hold_stepS so1 r1 po1
      split at po2
      · rename_i kk' ds' es hg1 hr1
        split at po2
        · rename_i hz
          obtain ⟨q2, hσ2, _, hw2, xs2, hq2, dt2⟩ := so2.sl i _ hg1
          rw [hσ] at hσ2; cases hσ2
          obtain ⟨b, zs, rfl, hb, dtb⟩ := (so2.rd r2 hr1).lst so2.sub
          refine .inr ⟨q, b, xs2, zs, rfl, rfl, hq2, hb, by rw [dt2.length, dtb.length]; exact mil hz, ?_⟩
          show D.nx (σ.set i (some (.ref q))) _
          rw [set_same hσ]
          exact po2 σ F2 W2 _ (so2.mut hg1 hσ hw2 ⟨hw2, _, upd_same, dt2.append dtb⟩) (Same.refl F2)
        · exact po2.elim
      · exact po2.elim
    · exact po.elim
/-- x *= e, ints -/
def augMul (i : Nat) (f : M R) : M Fl := fun Γ => match Γ[i]? with
  | some (.val (.int _)) => M.bnd f (fun r Γ => match Γ[i]?, rdD Γ r with
    | some (.val (.int n)), some (.int j) => if big64 j then .ok .nx (Γ.set i (.val (.int (n * j)))) else .bad
    | _, _ => .bad) Γ
  | _ => .bad
theorem ss_augMul {i : Nat} {x : Str} {px : Pos} (hN : X.N.Nodup) (hi : X.N[i]? = some x) (hx : Loc X.env.scope x) (he : PE X e (tE k f E)) (hf : X.fn x = true ∨ X.env.scope.names.lookup x = some .local := by first | exact .inl rfl | exact .inr rfl | assumption) :
    PS X (.AugAssign (.Name x px) .Mult e pos) (tS k (augMul i f) E) :=
  (ps_aug (i := i) (ti := rI CMul fun i j => .int (i * j)) hN hi hx he (fun pins s σ H x y v u Q I rx ry q => iop_mul pins s σ H x y v u Q I rx ry q) hf).imp fun D σ H ⟨c, Γ, F, W, so, po⟩ => by
    simp only [augMul] at po
    split at po
    · rename_i n hg
      obtain ⟨u, hσ, hd⟩ := so.sl i _ hg
      rw [hd.int_of] at hσ
      refine ⟨_, hσ, c, Γ, F, W, so, PostS.seqE po fun r Γ1 v F1 W1 H1 so1 sm1 r1 po1 => ?_⟩
      split at po1
      · rename_i m j hg1 hr1
        split at po1
        · rename_i hb
          obtain ⟨u1, hσ1, hd1⟩ := so1.sl i _ hg1
          rw [hd1.int_of, hσ] at hσ1; cases hσ1
          simp only [big64, Bool.and_eq_true, decide_eq_true_eq] at hb
          refine ⟨n, j, rfl, (so1.rd r1 hr1).int, .inr (by omega), po1 _ F1 W1 H1 (so1.setV (.int _) ?_) (Same.refl F1)⟩
          rw [← so1.len]
          exact (List.getElem?_eq_some_iff.mp hσ).1
        · exact po1.elim
      · exact po1.elim
    · exact po.elim
/-- a, b, .. = e, e a tuple -/
def sUnp (tg : Tg) (f : M R) : M Fl := f.bnd fun r => (stD r).bnd fun d Γ => match tg d Γ with
  | some Γ' => .ok .nx Γ'
  | none => .bad
theorem ss_unp {tgE : Expr} {g : TG} {tg : Tg} {vs : List Nat} (he : PE X e (tE k f E)) (hg : PG X tgE g) (ht : TgS k g tg vs) (hs : swapsWithSole [tgE] e pos.line X.env = pure false := by rfl) (hw : swappedStores [tgE] e X.env = pure none := by rfl)
    (h1 : (assignEach [tgE] X.env).map (·.2) = [assign tgE X.env] := by rfl) : PS X (.Assign [tgE] e pos) (tS k (sUnp tg f) E) :=
  (ps_asg he hg hs hw h1).imp fun D σ H ⟨c, Γ, F, W, so, po⟩ => ⟨c, Γ, F, W, so, po.seqE fun r Γ1 v F1 W1 H1 so1 sm1 r1 po1 => by
    obtain ⟨d, Γ2, F2, W2, so2, sm2, dt, po2⟩ := st_stepS so1 r1 po1
    split at po2
    · rename_i Γ3 e3
      exact ht c Γ2 σ F2 W2 H1 v d Γ3 _ so2 dt e3 fun σ3 so3 _ _ => po2 σ3 F2 W2 H1 so3 (Same.refl F2)
    · exact po2.elim⟩
/-- x[n] = e, x a list of one's own in slot i -/
def setM (i : Nat) (fx fe : M R) : M Fl := fe.bnd fun r => (stD r).bnd fun d Γ => match Γ[i]? with
  | some (.own _ (.lst _)) => M.bnd fx (fun rx Γ => match Γ[i]?, rdD Γ rx with
    | some (.own kk (.lst ds)), some (.int n) => (match ixN ds.length n with
      | some j => .ok .nx (Γ.set i (.own kk (.lst (ds.set j d))))
      | none => .bad)
    | _, _ => .bad) Γ
  | _ => .bad
theorem ss_setL {i : Nat} {o x : Expr} {px : Pos} {fx fe : M R} (ho : PE X o (tVar i)) (hx : PE X x (tE k fx E)) (he : PE X e (tE k fe E))
    (ha : ∀ v, assign (.Subscript o x px) X.env v = (do
      let ov ← holding [v] (eval o X.env)
      let iv ← holding [v, ov] (eval x X.env)
      standAt px
      holding [v, ov, iv] (setItem ov iv v)
      release [v, ov, iv] []) := by intro _; rfl)
    (hs : swapsWithSole [.Subscript o x px] e pos.line X.env = pure false := by rfl) (hw : swappedStores [.Subscript o x px] e X.env = pure none := by rfl)
    (h1 : (assignEach [.Subscript o x px] X.env).map (·.2) = [assign (.Subscript o x px) X.env] := by rfl) : PS X (.Assign [.Subscript o x px] e pos) (tS k (setM i fx fe) E) :=
  (ps_asg he (pg_sub ho hx set_list ha) hs hw h1).imp fun D σ H ⟨c, Γ, F, W, so, po⟩ => ⟨c, Γ, F, W, so, po.seqE fun r Γ1 v F1 W1 H1 so1 sm1 r1 po1 => by
    obtain ⟨d, Γ2, F2, W2, so2, sm2, dt, po2⟩ := st_stepS so1 r1 po1
    split at po2
    · rename_i kk0 ds0 hg0
      obtain ⟨q, hσ, _, _⟩ := so2.sl i _ hg0
      refine ⟨_, hσ, c, Γ2, F2, W2, so2, PostS.seqE po2 fun rx Γ4 vx F4 W4 H4 so4 sm4 r4 po4 => ?_⟩
      split at po4
      · rename_i kk ds n hg hr
        split at po4
        · rename_i j hj
          obtain ⟨q', hσ', _, hw', xs, hq, dt'⟩ := so4.sl i _ hg
          rw [hσ] at hσ'; cases hσ'
          refine ⟨q, xs, n, j, rfl, (so4.rd r4 hr).int, hq, by rw [dt'.length]; exact hj, po4 σ F4 W4 _ (so4.mut hg hσ hw' ⟨hw', _, upd_same, dt'.set (dt.mono sm4) j⟩) (Same.refl F4)⟩
        · exact po4.elim
      · exact po4.elim
    · exact po2.elim⟩
/-! ### dicts -/
def lookT (kvs : List (List Int × Int)) (ks : List Int) : Option Int := match kvs with
  | [] => none
  | kv :: r => if kv.1 = ks then some kv.2 else lookT r ks
def putT (kvs : List (List Int × Int)) (ks : List Int) (v : Int) : List (List Int × Int) := match kvs with
  | [] => [(ks, v)]
  | kv :: r => if kv.1 = ks then (kv.1, v) :: r else kv :: putT r ks v
theorem inl_inj : ∀ {a b : List Int}, a.map (Sum.inl : Int → Key) = b.map Sum.inl → a = b
  | [], [], _ => rfl
  | [], _ :: _, h => by cases h
  | _ :: _, [], h => by cases h
  | x :: a, y :: b, h => by
    injection h with h1 h2
    injection h1 with h1
    rw [h1, inl_inj h2]
theorem val_look (ks : List Int) : ∀ kvs : List (List Int × Int), valV (kvs.map keyT) (ks.map Sum.inl) = (lookT kvs ks).map V.int
  | [] => rfl
  | kv :: r => by
    unfold lookT
    rw [List.map_cons]
    by_cases h : kv.1 = ks
    · rw [if_pos h, valV_pos (by show kv.1.map Sum.inl = _; rw [h])]; rfl
    · rw [if_neg h, valV_neg (fun z => h (inl_inj z))]
      exact val_look ks r
theorem any_none {κ : Type} [DecidableEq κ] {kvs : List (κ × V)} {k : κ} (h : valV kvs k = none) : (kvs.any fun kv => decide (kv.1 = k)) = false := by
  unfold valV at h
  rw [Option.map_eq_none_iff, List.find?_eq_none] at h
  rw [List.any_eq_false]
  exact h
/-- keys stand once each -/
def ndT : List (List Int × Int) → Bool
  | [] => true
  | kv :: r => (lookT r kv.1).isNone && ndT r
def dictT (Γ : En) (i : Nat) : Option (List (List Int × Int)) := match Γ[i]? with
  | some (.own _ (.dT kvs)) => some kvs
  | _ => none
def keyD : PyData → Option (List Int)
  | .tuple ds => intsOf ds
  | _ => none
theorem Rdy.key {F H : Hp} {v : V} {d : PyData} {ks : List Int} (h : Rdy F H v d) (sm : Same F H) (e : keyD d = some ks) : ∃ b, v = .ref b ∧ H b = some (.tup ((ks.map (Sum.inl : Int → Key)).map kV)) := by
  cases d with
  | tuple ds =>
    have e : intsOf ds = some ks := e
    rw [intsOf_ok e] at h
    obtain ⟨p, vs, rfl, _, hp, dt⟩ := h.tup sm
    refine ⟨p, rfl, ?_⟩
    rw [dt.ints] at hp
    rw [hp, List.map_map]; rfl
  | _ => cases e
/-- key not in d, d the name in slot i -/
def ninM (f : M R) (i : Nat) : M R := f.bnd fun r => (hold r).bnd fun r Γ => match dictT Γ i, (rdD Γ r).bind keyD with
  | some kvs, some ks => .ok (.val (.bool (lookT kvs ks).isNone)) Γ
  | _, _ => .bad
theorem isNone_map {α β : Type} {o : Option α} {f : α → β} : (!(o.map f).isSome) = o.isNone := by cases o <;> rfl
theorem dict_of {c : Gc} {Γ : En} {σ : L2.St} {F : Hp} {W : Wm} {H : Hp} {i : Nat} {kvs : List (List Int × Int)} (so : SOk k c Γ σ F W H) (h : dictT Γ i = some kvs) : ∃ q kk, σ[i]? = some (some (.ref q)) ∧ Γ[i]? = some (.own kk (.dT kvs)) ∧ W q = some (.slot i) ∧ H q = some (.dT (kvs.map keyT)) := by
  unfold dictT at h
  split at h
  · rename_i kk kvs' hg
    cases h
    obtain ⟨q, h1, _, h2, h3⟩ := so.sl i _ hg
    exact ⟨q, kk, h1, hg, h2, h3⟩
  · cases h
theorem nin_ok {i : Nat} {f : M R} {Q : VK} {σ : L2.St} {H : Hp} (h : tE k (ninM f i) E σ H Q) : tDNotIn (tE k f E) (tVar i) σ H Q := by
  obtain ⟨c, Γ, F, W, so, po⟩ := h
  refine ⟨c, Γ, F, W, so, po.seq fun r Γ1 v F1 W1 H1 so1 sm1 r1 po1 => ?_⟩
  obtain ⟨r', F2, W2, so2, sm2, ⟨r2, hn⟩, po2⟩ := hold_step so1 r1 po1
  split at po2
  · rename_i kvs ks h1 h2
    obtain ⟨d, h3, h4⟩ := Option.bind_eq_some_iff.mp h2
    obtain ⟨q, kk, hσ, _, _, hq⟩ := dict_of so2 h1
    obtain ⟨b, rfl, hb⟩ := (so2.rd r2 h3).key so2.sub h4
    refine ⟨_, hσ, q, _, rfl, DGet.t hq hb, ?_⟩
    rw [val_look, isNone_map]
    exact po2 _ F2 W2 H1 so2 (Same.refl F2) (.bl _)
  · exact po2.elim
theorem st_dnin {i : Nat} {o : Expr} (hu : X.A.units + 1 < cLine) (ha : PE X a (tE k f E)) (ho : PE X o (tVar i)) (hm : behindInMarks .NotIn o = false := by rfl) : PT X (.Compare a [.NotIn] [o] pos) (tT k (tst (ninM f i)) E) :=
  (pt_cmp (pc_dnotin hu ha ho) hm).imp fun σ H Q h => nin_ok (tst_ok σ H Q h)
/-- d[key] -/
def dgetM (i : Nat) (f : M R) : M R := fun Γ => match dictT Γ i with
  | some _ => M.bnd f (fun r => (hold r).bnd fun r Γ => match dictT Γ i, (rdD Γ r).bind keyD with
    | some kvs, some ks => (match lookT kvs ks with
      | some v => .ok (.val (.int v)) Γ
      | none => .bad)
    | _, _ => .bad) Γ
  | none => .bad
theorem se_dget {i : Nat} {o : Expr} (hu : X.A.units + 1 < cLine) (ho : PE X o (tVar i)) (ha : PE X a (tE k f E)) (hs : NoSl a := by exact fun _ _ => rfl) : PE X (.Subscript o a pos) (tE k (dgetM i f) E) :=
  (pe_dget hu ho ha hs).imp fun σ H Q ⟨c, Γ, F, W, so, po⟩ => by
    simp only [dgetM] at po
    split at po
    · rename_i kvs0 h0
      obtain ⟨q, kk, hσ, _, _, hq⟩ := dict_of so h0
      refine ⟨_, hσ, c, Γ, F, W, so, Post.seq po fun r Γ1 v F1 W1 H1 so1 sm1 r1 po1 => ?_⟩
      obtain ⟨r', F2, W2, so2, sm2, ⟨r2, hn⟩, po2⟩ := hold_step so1 r1 po1
      split at po2
      · rename_i kvs ks h1 h2
        obtain ⟨d, h3, h4⟩ := Option.bind_eq_some_iff.mp h2
        obtain ⟨q', kk', hσ', _, _, hq'⟩ := dict_of so2 h1
        rw [hσ] at hσ'; cases hσ'
        obtain ⟨b, rfl, hb⟩ := (so2.rd r2 h3).key so2.sub h4
        split at po2
        · rename_i w hw
          refine ⟨q, .int w, rfl, ?_, po2 _ F2 W2 H1 so2 (Same.refl F2) (.int _)⟩
          have := DGet.t hq' hb
          rw [val_look, hw] at this
          exact this
        · exact po2.elim
      · exact po2.elim
    · exact po.elim
/-- d[key] = v: a key that is new -/
def dputM (i : Nat) (fk fv : M R) : M Fl := fv.bnd fun r => (stD r).bnd fun d Γ => match dictT Γ i with
  | some _ => M.bnd fk (fun rk => (hold rk).bnd fun rk Γ => match Γ[i]?, (rdD Γ rk).bind keyD, d with
    | some (.own kk (.dT kvs)), some ks, .int w => (match lookT kvs ks with
      | none => if kvs.length < 1000000 then .ok .nx (Γ.set i (.own kk (.dT (kvs ++ [(ks, w)])))) else .bad
      | some _ => .bad)
    | _, _, _ => .bad) Γ
  | none => .bad
theorem ss_dput {i : Nat} {o x : Expr} {px : Pos} {fk fv : M R} (hu : X.A.units + 1 < cLine) (ho : PE X o (tVar i)) (hx : PE X x (tE k fk E)) (he : PE X e (tE k fv E)) (hs : swapsWith e (some (.Subscript o x px)) pos.line X.env = pure false := by rfl) :
    PS X (.Assign [.Subscript o x px] e pos) (tS k (dputM i fk fv) E) :=
  (ps_dput hu ho hx he hs).imp fun D σ H ⟨c, Γ, F, W, so, po⟩ => ⟨c, Γ, F, W, so, po.seqE fun r Γ1 v F1 W1 H1 so1 sm1 r1 po1 => by
    obtain ⟨d, Γ2, F2, W2, so2, sm2, dt, po2⟩ := st_stepS so1 r1 po1
    split at po2
    · rename_i kvs0 h0
      obtain ⟨q, kk, hσ, _, _, hq⟩ := dict_of so2 h0
      refine ⟨_, hσ, c, Γ2, F2, W2, so2, PostS.seqE po2 fun rk Γ3 vk F3 W3 H3 so3 sm3 r3 po3 => ?_⟩
      obtain ⟨r', F4, W4, so4, sm4, ⟨r4, hn⟩, po4⟩ := hold_stepS so3 r3 po3
      split at po4
      · rename_i kk kvs ks w hg h2
        obtain ⟨d', h3, h4⟩ := Option.bind_eq_some_iff.mp h2
        obtain ⟨q', hσ', _, hw', hq'⟩ := so4.sl i _ hg
        rw [hσ] at hσ'; cases hσ'
        obtain ⟨b, rfl, hb⟩ := (so4.rd r4 h3).key so4.sub h4
        split at po4
        · rename_i hl
          split at po4
          · rename_i hz
            have ev : v = .int w := (dt.mono (sm3.trans sm4)).int_of
            subst ev
            refine ⟨q, _, rfl, DPut.t hq' hb (by rw [List.length_map]; exact lt_mil hz), po4 σ F4 W4 _ (so4.mut hg hσ hw' ⟨hw', ?_⟩) (Same.refl F4)⟩
            rw [upd_same]
            have hn : valV (kvs.map keyT) (ks.map Sum.inl) = none := by rw [val_look, hl]; rfl
            unfold putK
            rw [any_none hn, if_neg Bool.false_ne_true, List.map_append]
            rfl
          · exact po4.elim
        · exact po4.elim
      · exact po4.elim
    · exact po2.elim⟩
/-- {}: its keys will be tuples -/
def newT : M R := M.ret (.own (.dT []))
theorem se_dnewT : PE X (.Dict [] [] pos) (tE k newT E) := pe_dnewT.imp fun σ H Q ⟨c, Γ, F, W, so, po⟩ => fun p hp => po _ F _ _ (so.newT hp) (Same.refl F) ⟨p, rfl, updW_same, upd_same⟩
end
end Rt
namespace Rt
open PySem PySem.Spec PyProof.Rows L2
/-! ### sorted of a list of data -/
def alikeB (ds : List PyData) : Bool := ds.all fun d => ds.all fun d' => PySem.W.alike d d'
def isTupN : PyData → Bool
  | .tuple (_ :: _) => true
  | _ => false
def isOth : PyData → Bool
  | .none => false
  | .tuple _ => false
  | _ => true
def sortB (ds : List PyData) : Bool := alikeB ds && (ds.all isTupN || ds.all isOth) && ds.all (fun d => decide (d.depth ≤ 60)) && decide (ds.length ≤ 1000000)
theorem sortB_ok {ds : List PyData} (h : sortB ds = true) : PySem.W.AllAlike ds ∧ PySem.W.Sortable ds ∧ (∀ d ∈ ds, d.depth ≤ 60) ∧ ds.length ≤ 1000000 := by
  unfold sortB at h
  simp only [Bool.and_eq_true, Bool.or_eq_true, List.all_eq_true, decide_eq_true_eq, alikeB] at h
  obtain ⟨⟨⟨h1, h2⟩, h3⟩, h4⟩ := h
  refine ⟨h1, ?_, h3, h4⟩
  rcases h2 with h2 | h2
  · refine .inl fun d hd => ?_
    have := h2 d hd
    unfold isTupN at this
    split at this
    · exact ⟨_, _, rfl⟩
    · cases this
  · refine .inr fun d hd => ?_
    have := h2 d hd
    refine ⟨fun z => ?_, fun xs z => ?_⟩
    · rw [z] at this; cases this
    · rw [z] at this; cases this
def insG {α : Type} (le : α → α → Bool) (a : α) : List α → List α
  | [] => [a]
  | b :: r => if le a b = true then a :: b :: r else b :: insG le a r
def isort {α : Type} (le : α → α → Bool) (l : List α) : List α := l.foldr (insG le) []
theorem insG_at {α : Type} {le : α → α → Bool} {a : α} {l2 : List α} (h2 : ∀ b ∈ l2, le a b = true) : ∀ {l1 : List α}, (∀ b ∈ l1, (!le a b) = true) → insG le a (l1 ++ l2) = l1 ++ a :: l2
  | [], _ => by
    cases l2 with
    | nil => rfl
    | cons b r => simp [insG, h2 b (by simp)]
  | b :: r, h => by
    have hb : le a b = false := by simpa using h b (by simp)
    simp [insG, hb, insG_at h2 (l1 := r) fun c hc => h c (by simp [hc])]
theorem isort_eq {α : Type} {le : α → α → Bool} (t : PySem.W.TotalLe le) : ∀ l : List α, isort le l = l.mergeSort le
  | [] => by simp [isort]
  | a :: l => by
    have tot : ∀ a b : α, (le a b || le b a) = true := fun a b => by rcases t.total a b with h | h <;> simp [h]
    obtain ⟨l1, l2, e1, e2, h⟩ := List.mergeSort_cons t.trans tot a l
    have pw := List.pairwise_mergeSort t.trans tot (a :: l)
    rw [e1] at pw ⊢
    have h2 : ∀ b ∈ l2, le a b = true := (List.pairwise_cons.mp (List.pairwise_append.mp pw).2.1).1
    show insG le a (isort le l) = _
    rw [isort_eq t l, e2]
    exact insG_at h2 h
def srtL (ds : List PyData) : List PyData := isort (PySem.W.dataLe false id) ds
theorem srtL_eq (ds : List PyData) : srtL ds = ds.mergeSort (PySem.W.dataLe false id) := isort_eq (PySem.W.sortLe_total _ _ _) ds
def rSortD (K : PySem.W.Frag) : List V → Hp → VK → Prop := fun vs H Q => ∃ (a : Addr) (xs : List V) (ds : List PyData), vs = [.ref a] ∧ SqL K H a xs ∧ DpAll K H xs ds ∧ sortB ds = true ∧
  ∀ (p : Addr) (zs : List (V × PyData)), H p = none → zs.Perm (xs.zip ds) → zs.map (·.2) = srtL ds → Q (.ref p) (upd H p (.lst (zs.map (·.1))))
theorem each_of {R : Value → V × PyData → Prop} : ∀ {us : List Value} {xs : List V} {ds : List PyData}, Vals xs us → xs.length = ds.length → (∀ u v d, RelV v u → (v, d) ∈ xs.zip ds → R u (v, d)) → PySem.W.EachIs R us (xs.zip ds)
  | [], [], [], .nil, _, _ => .nil
  | u :: us, x :: xs, d :: ds, .cons r t, hl, h => .cons (h u x d r (by simp)) (each_of t (by simpa using hl) fun u v d' r' hm => h u v d' r' (by simp [hm]))
theorem vals_of_each : ∀ {us : List Value} {zs : List (V × PyData)}, PySem.W.EachIs (fun u z => RelV z.1 u) us zs → Vals (zs.map (·.1)) us
  | _, _, .nil => .nil
  | _, _, .cons r t => .cons r (vals_of_each t)
theorem DpAll.zip {K : PySem.W.Frag} {H : Hp} : ∀ {xs : List V} {ds : List PyData}, DpAll K H xs ds → xs.length = ds.length ∧ ∀ v d, (v, d) ∈ xs.zip ds → Dp K H v d
  | _, _, .nil => ⟨rfl, fun v d h => by cases h⟩
  | _, _, .cons a r => by
    obtain ⟨h1, h2⟩ := DpAll.zip r
    refine ⟨by simp [h1], fun v d h => ?_⟩
    simp only [List.zip_cons_cons, List.mem_cons] at h
    rcases h with h | h
    · cases h; exact a
    · exact h2 v d h
theorem cr_sortD {X : Cx} (hu : X.A.units + 70 < cLine) : CallR X (.builtin "sorted") (rSortD X.K) := by
  intro pins s σ H vs us Q I r h
  obtain ⟨a, xs, ds, rfl, hq, dp, hb, q⟩ := h
  obtain ⟨u, rfl, ru⟩ := r.one
  obtain rfl : u = Value.ref a := ru
  obtain ⟨its, rv, pl, hz⟩ := I.list hq
  obtain ⟨hl, hdp⟩ := DpAll.zip dp
  obtain ⟨b1, b2, b3, b4⟩ := sortB_ok hb
  have em : (xs.zip ds).map (·.2) = ds := by
    rw [List.map_snd_zip]; omega
  refine PySem.W.sorted_data (β := V × PyData) (R := fun u z => RelV z.1 u) (enc := fun z => z.2) (bs := xs.zip ds) (vs := its) pl.isList (each_of rv hl fun u v d r _ => r)
    (each_of rv hl fun u v d r hm => Dp.reads I d v u (hdp v d hm) r) (by show PySem.W.AllAlike ((xs.zip ds).map (·.2)); rw [em]; exact b1) (by show PySem.W.Sortable ((xs.zip ds).map (·.2)); rw [em]; exact b2)
    (by rw [List.length_zip]; exact Nat.le_trans (Nat.min_le_right _ _) (mil b4)) (fun b hb => ?_) fun out ho eo => ?_
  · have : b.2 ∈ ds := by rw [← em]; exact List.mem_map_of_mem hb
    have := b3 _ this
    show X.A.units + 2 + b.2.depth < cLine
    omega
  · obtain ⟨e, he⟩ := PyProof.Rows.sortedAll_at s.heap its (List.toArray out)
    have vo := vals_of_each eo
    refine ⟨.ref (s.heap.objs.size + 1), upd H (s.heap.objs.size + 1) (.lst _), I.laid (t' := s.toks) (fun b o e => PyProof.Rows.sortedAll_old e) (Nat.le_succ _) ⟨?_, out, e, vo, he⟩, rfl,
      q _ _ (I.hok.fresh (Nat.le_succ _)) (List.mergeSort_perm _ _) ?_⟩
    · rw [List.length_map, List.length_mergeSort, List.length_zip]; exact Nat.le_trans (Nat.min_le_right _ _) (mil b4)
    · rw [srtL_eq]
      have q2 := List.map_mergeSort (r := PySem.W.dataLe false fun z : V × PyData => z.2) (s := PySem.W.dataLe false id) (f := fun z : V × PyData => z.2) (l := xs.zip ds) (fun a _ b _ => rfl)
      rw [q2, em]
section
variable {k : Kx} {X : Cx}
def dSorted : List PyData → Option R
  | [.list ds] => if sortB ds then some (.own (.lst (srtL ds))) else none
  | _ => none
theorem DtAll.zipped {F : Hp} : ∀ {xs : List V} {ds : List PyData}, DtAll F xs ds → ∀ v d, (v, d) ∈ xs.zip ds → Dt F v d
  | _, _, .nil => fun v d h => by cases h
  | _, _, .cons a r => fun v d h => by
    simp only [List.zip_cons_cons, List.mem_cons] at h
    rcases h with h | h
    · cases h; exact a
    · exact DtAll.zipped r v d h
theorem DtAll.unzip {F : Hp} : ∀ {zs : List (V × PyData)}, (∀ z ∈ zs, Dt F z.1 z.2) → DtAll F (zs.map (·.1)) (zs.map (·.2))
  | [], _ => .nil
  | z :: zs, h => .cons (h z (by simp)) (DtAll.unzip fun z' hz => h z' (by simp [hz]))
theorem cS_sorted : CallS k (rSortD k.K) dSorted := fun c Γ σ F W H xs ds res Q so rs e f => by
  unfold dSorted at e
  split at e
  · rename_i ds
    split at e
    · rename_i hb
      cases e
      obtain ⟨v, rfl, r⟩ := rs.one
      obtain ⟨p, vs, rfl, hp, dt⟩ := r.lst so.sub
      refine ⟨p, vs, ds, rfl, SqL.of hp, dt.dp so.sub, hb, fun p' zs hp' pm em => newLst so ?_ f p' hp'⟩
      rw [← em]
      exact DtAll.unzip fun z hz => dt.zipped z.1 z.2 (pm.mem_iff.mp hz)
    · cases e
  · cases e
theorem cr_sorted' (hk : X.K = k.K) (hu : X.A.units + 70 < cLine) : CallR X (.builtin "sorted") (rSortD k.K) := by rw [← hk]; exact cr_sortD hu
end
end Rt
namespace Rt
open PySem PySem.Spec PyProof.Rows L2
/-! ### set(xs), xs a list, by what the model's loop does -/
/-- the new set object -/
abbrev setO0 (w : World) : Obj := { cls := .type "set", dict := none, data := .set #[] 0 (.fresh 0 0 (!w.params.followText "set-order")) }
abbrev itO0 (l : Addr) : Obj := { cls := .type "list_iterator", data := .fields #[.ref l, .int 0 0] }
section
variable {P : Program} {w : World} {A : Around} {E : Value → Shared → Prop} {s : Shared}
theorem set_call {l : Addr} {items : Array Value} {Q : Value → Shared → Prop} (good : Heap → Prop) (hl : s.heap.IsList l items)
    (loop : ∀ R : Result → Shared → Prop, (∀ h' tk, good h' → (∀ b o, s.heap.get? b = some o → h'.get? b = some o) → R (.ok (.ret .none)) { s with heap := h', toks := tk }) →
      codeAny (model P w) A.in1.in1 (.builtin "set.update.loop" ⟨[.ref s.heap.objs.size, .ref (s.heap.push (setO0 w)).objs.size], []⟩) R { s with heap := (s.heap.push (setO0 w)).push (itO0 l) })
    (h : ∀ h' tk, good h' → (∀ b o, s.heap.get? b = some o → h'.get? b = some o) → Q (.ref s.heap.objs.size) { s with heap := h', toks := tk }) :
    wpAny (model P w) A (call (.type "set") [.ref l]) Q E s := by
  obtain ⟨c0, tl0, mro0⟩ := F.called_set.mro
  have q1 := F.called_set.made
  have q2 := F.called_set.sub
  have q3 := F.called_set.notType
  have q4 := F.called_set.canCreate
  have q5 := F.typeCall_set_1 (.ref l)
  refine wpAny_call (codeAny_of_tree (show wpAny _ _ (callAny (.type "set") _) _ _ _ from wpAny_pure ⟨Code.quiet_builtin _ (by decide +kernel), codeAny_builtin F.entry_type_call ?_⟩))
  rw [Around.under_plain (weight_type_call_type "set" [.ref l] []) rfl]
  repeat (any_goals (first | assumption | wp_step))
  have new := code_set_led1 (P := P) (w := w) (A := A.in1) (s := s) (.ref l) (E := E) (Q₁ := fun obj s₁ => obj = .ref s.heap.objs.size ∧ s₁ = { s with heap := s.heap.push (setO0 w) }) ⟨rfl, rfl⟩
  refine codeAny_mono new fun r s₁ hr => ?_
  match r, hr with
  | .error e, hr => exact hr
  | .ok .next, hr => exact hr.elim
  | .ok .brk, hr => exact hr.elim
  | .ok .cont, hr => exact hr.elim
  | .ok (.ret obj), hr =>
    obtain ⟨rfl, rfl⟩ := hr
    have at0 : (s.heap.push (setO0 w)).get? s.heap.objs.size = some (setO0 w) := Heap.get?_push_size _ rfl
    have ty0 : Shared.TypeIs { s with heap := s.heap.push (setO0 w) } (.ref s.heap.objs.size) "set" := ⟨_, at0, rfl⟩
    have i1 := F.called_set.init.lookup
    have i2 := F.called_set.init.bind (.ref s.heap.objs.size)
    repeat (any_goals (first | assumption | wp_step))
    have run : codeAny (model P w) A.in1 (.call (.builtin "set.__init__") ⟨[.ref s.heap.objs.size, .ref l], []⟩) (wants (fun r s₂ => r = .none ∧ ∃ h' tk, s₂ = { s with heap := h', toks := tk } ∧ good h' ∧ ∀ b o, s.heap.get? b = some o → h'.get? b = some o) E) { s with heap := s.heap.push (setO0 w) } := by
      refine codeAny_call_builtin F.called_set.init.plain F.entry_set_init (check_set_init_1 ty0 ?_)
      obtain ⟨⟨oc, od, odt, osl⟩, ho, hc, n, hd⟩ := hl
      simp only at hc hd
      subst hc; subst hd
      have ho' : (s.heap.push (setO0 w)).get? l = some ⟨.type "list", od, .seq items n, osl⟩ := Heap.get?_push_of_some _ ho
      have l1 : (s.heap.push (setO0 w)).IsList l items := ⟨_, ho', rfl, n, rfl⟩
      have n1 := F.sub_list_set
      have n2 := F.sub_list_frozenset
      have n3 : (Value.type "list" == Value.type "dict") = false := by decide
      unfold Builtin.«set.__init__» noKeywords Builtin.Frozenset.updateFrom
      generalize hPI : pyIter = PI
      wp_walk
      subst hPI
      refine wpAny_pyIter_list l1 (wpAny_bind (wpAny_runValue (loop _ fun h' tk g kp => ?_)))
      show wpAny _ _ _ _ _ _
      exact wpAny_pure (wpAny_pure ⟨rfl, h', tk, rfl, g, kp⟩)
    refine codeAny_mono run fun r₂ s₂ hr₂ => ?_
    match r₂, hr₂ with
    | .error e, hr₂ => exact hr₂
    | .ok .next, hr₂ => exact hr₂.elim
    | .ok .brk, hr₂ => exact hr₂.elim
    | .ok .cont, hr₂ => exact hr₂.elim
    | .ok (.ret u), hr₂ =>
      obtain ⟨rfl, h', tk, rfl, g, kp⟩ := hr₂
      repeat (any_goals (first | assumption | wp_step))
      exact h h' tk g kp
end
end Rt
namespace Rt
open PySem PySem.Spec PyProof.Rows L2
section
variable {P : Program} {w : World} {A : Around} {E : Value → Shared → Prop} {s : Shared}
theorem set_ints {l : Addr} {items : Array Value} {ns : List Int} {Q : Value → Shared → Prop} (hh : A.handled = none) (hl : s.heap.IsList l items) (hi : IntsAre items.toList ns) (hb : ns.length + 1 < scanBound)
    (h : ∀ h' tk c, SetR w h' s.heap.objs.size (fun j => decide (j ∈ ns)) c → c ≤ ns.length → (∀ b o, s.heap.get? b = some o → h'.get? b = some o) → Q (.ref s.heap.objs.size) { s with heap := h', toks := tk }) :
    wpAny (model P w) A (call (.type "set") [.ref l]) Q E s := by
  have hz : items.size = ns.length := by
    have q := IntsAre.length hi
    rw [Array.length_toList] at q
    exact q
  obtain ⟨ol, hol, _⟩ := id hl
  have lS : l < s.heap.objs.size := Heap.lt_size hol
  refine set_call (fun h' => ∃ c, SetR w h' s.heap.objs.size (fun j => decide (j ∈ ns)) c ∧ c ≤ ns.length) hl (fun R hR => ?_) fun h' tk ⟨c, g1, g2⟩ kp => h h' tk c g1 g2 kp
  have sz : (s.heap.push (setO0 w)).objs.size = s.heap.objs.size + 1 := Heap.size_push ..
  have nI : l ≠ (s.heap.push (setO0 w)).objs.size := by rw [sz]; exact Nat.ne_of_lt (Nat.lt_succ_of_lt lS)
  have nS : s.heap.objs.size ∉ [(s.heap.push (setO0 w)).objs.size, l] := by
    rw [sz]
    intro z
    simp only [List.mem_cons, List.not_mem_nil, or_false] at z
    rcases z with z | z
    · exact absurd z (Nat.ne_of_lt (Nat.lt_succ_self _))
    · exact absurd z (Nat.ne_of_gt lS)
  have l1 : (s.heap.push (setO0 w)).IsList l items := by
    obtain ⟨o, h1, h2⟩ := hl
    exact ⟨o, Heap.get?_push_of_some _ h1, h2⟩
  refine set_update_ints (A := A.in1.in1) ((Walks.list (A := A.in1.in1.in1) (by simp [hh]) (s.heap.push (setO0 w)).objs.size l nI items).toS) s.heap.objs.size nS ns hz hb (fun i v hv => ?_) (items.size - 0) 0 _ (by omega) (Nat.zero_le _)
    ⟨⟨_, Heap.get?_push_size _ rfl, rfl, rfl⟩, l1.push _⟩ ⟨0, Nat.le_refl 0, setR_new_at (Heap.get?_push_of_some _ (Heap.get?_push_size _ rfl))⟩ fun s' c hm hc hS => ?_
  · have hlt : i < ns.length := by rw [← hz]; exact (Array.getElem?_eq_some_iff.mp hv).1
    obtain ⟨t, e⟩ := PyProof.Rows.IntsAre.int_at hi i v (by rw [Array.getElem?_toList]; exact hv)
    exact ⟨ns[i], t, List.getElem?_eq_getElem hlt, by rw [e, List.getD_eq_getElem?_getD, List.getElem?_eq_getElem hlt] <;> rfl⟩
  · obtain ⟨h', g, d, tk, os⟩ := s'
    obtain rfl : g = s.gens := hm.gens
    obtain rfl : d = s.drawn := hm.drawn
    obtain rfl : os = s.os := hm.os
    refine hR h' tk ⟨c, hS, by rw [hz] at hc; exact hc⟩ fun b o e => ?_
    have b0 : b < s.heap.objs.size := Heap.lt_size e
    refine hm.heap b o ?_ (Heap.get?_push_of_some _ (Heap.get?_push_of_some _ e))
    intro z
    simp only [List.mem_cons, List.not_mem_nil, or_false] at z
    rcases z with z | z
    · exact absurd z (Nat.ne_of_lt b0)
    · rw [sz] at z; exact absurd z (Nat.ne_of_lt (Nat.lt_succ_of_lt b0))
end
/-! ### sorted(set(xs)), xs a list of ints -/
def small16 (ns : List Int) : Bool := ns.all (fun n => decide (0 ≤ n) && decide (n < 16)) && decide (ns.length < 4000)
def uS (ns : List Int) : List Int := [0, 1, 2, 3, 4, 5, 6, 7, 8, 9, 10, 11, 12, 13, 14, 15].filter fun j => ns.contains j
theorem sorted_unique : ∀ {a b : List Int}, a.Pairwise (· < ·) → b.Pairwise (· < ·) → (∀ j, j ∈ a ↔ j ∈ b) → a = b
  | [], [], _, _, _ => rfl
  | [], y :: b, _, _, h => absurd ((h y).mpr (by simp)) (by simp)
  | x :: a, [], _, _, h => absurd ((h x).mp (by simp)) (by simp)
  | x :: a, y :: b, h1, h2, h => by
    rw [List.pairwise_cons] at h1 h2
    have e : x = y := by
      rcases List.mem_cons.mp ((h x).mp (by simp)) with z | z
      · exact z
      · rcases List.mem_cons.mp ((h y).mpr (by simp)) with z' | z'
        · exact z'.symm
        · have := h2.1 x z
          have := h1.1 y z'
          omega
    subst e
    rw [sorted_unique h1.2 h2.2 fun j => ⟨fun hj => ?_, fun hj => ?_⟩]
    · rcases List.mem_cons.mp ((h j).mp (List.mem_cons_of_mem _ hj)) with z | z
      · have := h1.1 j hj; omega
      · exact z
    · rcases List.mem_cons.mp ((h j).mpr (List.mem_cons_of_mem _ hj)) with z | z
      · have := h2.1 j hj; omega
      · exact z
theorem uS_ok {ns ms : List Int} (h : small16 ns = true) (h1 : ms.Pairwise (· < ·)) (h2 : ∀ j, j ∈ ms ↔ j ∈ ns) : ms = uS ns := by
  refine sorted_unique h1 (List.Pairwise.filter _ (by decide)) fun j => ?_
  rw [h2]
  simp only [small16, Bool.and_eq_true, List.all_eq_true, decide_eq_true_eq] at h
  unfold uS
  rw [List.mem_filter]
  constructor
  · intro hj
    have := h.1 j hj
    refine ⟨?_, by simpa using hj⟩
    have : j = 0 ∨ j = 1 ∨ j = 2 ∨ j = 3 ∨ j = 4 ∨ j = 5 ∨ j = 6 ∨ j = 7 ∨ j = 8 ∨ j = 9 ∨ j = 10 ∨ j = 11 ∨ j = 12 ∨ j = 13 ∨ j = 14 ∨ j = 15 := by omega
    rcases this with h | h | h | h | h | h | h | h | h | h | h | h | h | h | h | h <;> simp [h]
  · rintro ⟨_, hj⟩
    simpa using hj
theorem uS_len (ns : List Int) : (uS ns).length ≤ 16 := Nat.le_trans (List.length_filter_le _ _) (by decide)
def tSortSet (K : PySem.W.Frag) (te : TE) : TE := fun σ H Q => te σ H fun x H1 => ∃ (a : Addr) (ns : List Int), x = .ref a ∧ SqL K H1 a (ns.map V.int) ∧ small16 ns = true ∧
  ∀ p : Addr, H1 p = none → Q (.ref p) (upd H1 p (.lst ((uS ns).map V.int)))
theorem set_few {w : World} {h : Heap} {a : Addr} {ns : List Int} {n : Nat} (R : SetR w h a (fun j => decide (j ∈ ns)) n) (hs : small16 ns = true) : n ≤ 16 := by
  obtain ⟨o, es, ep, t, ho, hex, hd, g, nd, hm, hb, hf, hn, hr, hl⟩ := R
  have h1 : (es.toList.map keyOf).Nodup := nd
  have h2 : ∀ x ∈ es.toList.map keyOf, x ∈ ([0, 1, 2, 3, 4, 5, 6, 7, 8, 9, 10, 11, 12, 13, 14, 15] : List Int) := fun x hx => by
    have hx2 := (hm x).mpr hx
    have hx3 : x ∈ ns := by simpa using hx2
    simp only [small16, Bool.and_eq_true, List.all_eq_true, decide_eq_true_eq] at hs
    have := hs.1 x hx3
    have : x = 0 ∨ x = 1 ∨ x = 2 ∨ x = 3 ∨ x = 4 ∨ x = 5 ∨ x = 6 ∨ x = 7 ∨ x = 8 ∨ x = 9 ∨ x = 10 ∨ x = 11 ∨ x = 12 ∨ x = 13 ∨ x = 14 ∨ x = 15 := by omega
    rcases this with h | h | h | h | h | h | h | h | h | h | h | h | h | h | h | h <;> simp [h]
  have key : ∀ (l D : List Int), l.Nodup → (∀ x ∈ l, x ∈ D) → l.length ≤ D.length := by
    intro l
    induction l with
    | nil => intro D _ _; exact Nat.zero_le _
    | cons x l ih =>
      intro D hn hs
      rw [List.nodup_cons] at hn
      have := ih (D.erase x) hn.2 fun y hy => by
        rw [List.mem_erase_of_ne (fun z => hn.1 (by rw [← z]; exact hy))]
        exact hs y (by simp [hy])
      rw [List.length_erase_of_mem (hs x (by simp))] at this
      have h0 : 0 < D.length := List.length_pos_of_mem (hs x (by simp))
      rw [List.length_cons]; omega
  have := key _ _ h1 h2
  rw [List.length_map, Array.length_toList, hn] at this
  exact this
theorem pe_sortSet {X : Cx} {a : Expr} {te : TE} {p1 p2 q1 q2 : Pos} (hc : X.calm = true) (hg : Gl X "sorted") (hm : X.mg "sorted" = none) (hg2 : Gl X "set") (hm2 : X.mg "set" = none) (ha : PE X a te) (na : starEach [a] X.env = (false, eval a X.env) :: starEach [] X.env := by rfl)
    (nb : starEach [.Call (.Name "set" p2) [a] [] q2] X.env = (false, eval (.Call (.Name "set" p2) [a] [] q2) X.env) :: starEach [] X.env := by rfl) :
    PE X (.Call (.Name "sorted" p1) [.Call (.Name "set" p2) [a] [] q2] [] q1) (tSortSet X.K te) := by
  refine ⟨fun pins s σ H Q I h => ?_⟩
  refine wpAny_Call_Name_kw (ld_blt I hg hm boot_sorted (PyProof.Rows.callWith_builtin1 (args_cons (Call_ (ld_blt I hg2 hm2 boot_set (PyProof.Rows.callWith_type1 (one_arg ha I h (fun u s1 x H1 I1 r1 q1 => ?_) na) na))) nb) nb))
  obtain ⟨l, ns, rfl, hq, hs, q⟩ := q1
  obtain rfl : u = Value.ref l := r1
  obtain ⟨its, rv, pl, hz⟩ := I1.list hq
  have hs' := hs
  simp only [small16, Bool.and_eq_true, List.all_eq_true, decide_eq_true_eq] at hs'
  refine set_ints (ns := ns) (I1.ok.hd hc) pl.isList (by simpa using rv.ints) (by unfold scanBound; omega) fun h' tk c R hcn kp => args_nil ?_
  have I2 : Inv X pins σ H1 { s1 with heap := h', toks := tk } := I1.kept (t' := tk) kp
  refine sorted_set (s := { s1 with heap := h', toks := tk }) R (I2.ok.hd hc) (Nat.lt_of_le_of_lt (set_few R hs) (by decide)) fun s' p out c ms k g o hp hg hi hs2 hm2 hl2 => ?_
  have em : ms = uS ns := uS_ok hs hs2 fun j => by rw [hm2]; simp
  subst em
  have hn : H1 p = none := I2.hok.fresh hp
  generalize hs2 : ({ s1 with heap := h', toks := tk } : Shared) = s2 at *
  have J : Inv X pins σ (upd H1 p (.lst ((uS ns).map V.int))) { s2 with heap := s'.heap, gens := s'.gens, drawn := s'.drawn, toks := s'.toks } :=
    I2.call (ch := []) (Un.laid k hp hn) (I2.hok.laid k hp ⟨by rw [List.length_map]; exact Nat.le_trans (uS_len ns) (by decide), out.toList, c, vals_of_ints hi, hg⟩) (by rw [g]; exact I2.bare) (fun _ z => nomatch z)
  have e : s' = { s2 with heap := s'.heap, gens := s'.gens, drawn := s'.drawn, toks := s'.toks } := by
    cases s'; cases s2; cases o; rfl
  rw [e]
  exact ⟨.ref p, _, J, rfl, q p hn⟩
def sSet (f : M R) : M R := f.bnd fun r => un1 (fun d => match d with
  | .list ds => (match intsOf ds with
    | some ns => if small16 ns then some (.own (.lst ((uS ns).map PyData.int))) else none
    | none => none)
  | _ => none) r
theorem se_sortSet {X : Cx} {k : Kx} {E : L2.St → XK} {f : M R} {a : Expr} {p1 p2 q1 q2 : Pos} (hk : X.K = k.K) (hc : X.calm = true) (hg : Gl X "sorted") (hm : X.mg "sorted" = none) (hg2 : Gl X "set") (hm2 : X.mg "set" = none) (ha : PE X a (tE k f E)) (na : starEach [a] X.env = (false, eval a X.env) :: starEach [] X.env := by rfl)
    (nb : starEach [.Call (.Name "set" p2) [a] [] q2] X.env = (false, eval (.Call (.Name "set" p2) [a] [] q2) X.env) :: starEach [] X.env := by rfl) :
    PE X (.Call (.Name "sorted" p1) [.Call (.Name "set" p2) [a] [] q2] [] q1) (tE k (sSet f) E) :=
  (pe_sortSet hc hg hm hg2 hm2 ha na nb).imp fun σ H Q ⟨c, Γ, F, W, so, po⟩ => ⟨c, Γ, F, W, so, po.seq fun r Γ1 x F1 W1 H1 so1 sm1 r1 po1 => by
    unfold un1 at po1
    split at po1
    · rename_i d hd
      have rd := so1.rd r1 hd
      split at po1
      · rename_i res hr
        dsimp only at hr
        split at hr
        · rename_i ds
          split at hr
          · rename_i ns hi
            split at hr
            · rename_i hs
              cases hr
              rw [intsOf_ok hi] at rd
              obtain ⟨p, vs, rfl, hp, dt⟩ := rd.lst so1.sub
              rw [dt.ints] at hp
              exact ⟨p, ns, rfl, SqL.of hp, hs, newLst so1 (DtAll.of_ints _) po1⟩
            · cases hr
          · cases hr
        · cases hr
      · exact po1.elim
    · exact po1.elim⟩
end Rt
namespace Rt
open PySem PySem.Spec PyProof.Rows L2
section
variable {k : Kx} {X : Cx} {E : L2.St → XK} {pos p p2 apos : Pos} {e a b c : Expr} {fa fb fc f : M R}
/-! a < b < c -/
def chn (d1 d2 : PyData → PyData → Option R) (fa fb fc : M R) : M R := fa.bnd fun ra => (hold ra).bnd fun ra => fb.bnd fun rb => (hold rb).bnd fun rb Γ => match rdD Γ ra, rdD Γ rb with
  | some x, some y => (match d1 x y with
    | some (.val (.bool true)) => (fc.bnd fun rc => op2 d2 rb rc) Γ
    | some (.val (.bool false)) => .ok (.val (.bool false)) Γ
    | _ => .bad)
  | _, _ => .bad
theorem chn_ok {d1 d2 : PyData → PyData → Option R} {r r' : R2} (h1 : OpS k r d1) (h2 : OpS k r' d2) : ∀ σ H Q, tE k (chn d1 d2 fa fb fc) E σ H Q → tChain r r' (tE k fa E) (tE k fb E) (tE k fc E) σ H Q := fun σ H Q ⟨c, Γ, F, W, so, po⟩ =>
  ⟨c, Γ, F, W, so, po.seq fun ra Γ1 x F1 W1 H1 so1 sm1 r1 po1 => by
    obtain ⟨ra', F2, W2, so2, sm2, ⟨r2, hn⟩, po2⟩ := hold_step so1 r1 po1
    refine ⟨c, Γ1, F2, W2, so2, po2.seq fun rb Γ3 y F3 W3 H3 so3 sm3 r3 po3 => ?_⟩
    obtain ⟨rb', F4, W4, so4, sm4, ⟨r4, hn4⟩, po4⟩ := hold_step so3 r3 po3
    split at po4
    · rename_i dx dy e1 e2
      have rx := so4.rd (r2.keep (W' := W4) (H' := H3) hn (sm3.trans sm4)) e1
      have ry := so4.rd r4 e2
      split at po4
      · rename_i e3
        refine h1 c Γ3 σ F4 W4 H3 x y dx dy _ _ so4 rx ry e3 fun v F5 W5 H5 so5 sm5 r5 => ?_
        have ev : v = .bl true := Dt.bl_of r5
        refine ⟨true, ev, iteT ⟨c, Γ3, F5, W5, so5, ?_⟩⟩
        refine Post.seq (po4.mono sm5) fun rc Γ6 w F6 W6 H6 so6 sm6 r6 po6 => ?_
        exact op2_ok h2 so6 (r4.keep hn4 (sm5.trans sm6)) r6 po6
      · rename_i e3
        refine h1 c Γ3 σ F4 W4 H3 x y dx dy _ _ so4 rx ry e3 fun v F5 W5 H5 so5 sm5 r5 => ?_
        have ev : v = .bl false := Dt.bl_of r5
        exact ⟨false, ev, iteF (po4 _ F5 W5 H5 so5 sm5 (.bl false))⟩
      · exact po4.elim
    · exact po4.elim⟩
theorem se_chain {op op' : CmpOp} {r r' : R2} {d1 d2 : PyData → PyData → Option R} (ho : OpR X (compareOp op) r) (ho' : OpR X (compareOp op') r') (h1 : OpS k r d1) (h2 : OpS k r' d2) (ha : PE X a (tE k fa E)) (hb : PE X b (tE k fb E)) (hc : PE X c (tE k fc E))
    (hm : lastMarks [op, op'] [b, c] = false := by with_unfolding_all rfl) : PE X (.Compare a [op, op'] [b, c] pos) (tE k (chn d1 d2 fa fb fc) E) := (pe_chain ho ho' ha hb hc hm).imp (chn_ok h1 h2)
theorem st_chain {op op' : CmpOp} {r r' : R2} {d1 d2 : PyData → PyData → Option R} (ho : OpR X (compareOp op) r) (ho' : OpR X (compareOp op') r') (h1 : OpS k r d1) (h2 : OpS k r' d2) (ha : PE X a (tE k fa E)) (hb : PE X b (tE k fb E)) (hc : PE X c (tE k fc E))
    (hm : lastMarks [op, op'] [b, c] = false := by with_unfolding_all rfl) : PT X (.Compare a [op, op'] [b, c] pos) (tT k (tst (chn d1 d2 fa fb fc)) E) := (pt_chain ho ho' ha hb hc hm).imp fun σ H Q h => chn_ok h1 h2 σ H _ (tst_ok σ H Q h)
/-! xs * n -/
theorem DtAll.flat {F : Hp} {xs : List V} {ds : List PyData} (h : DtAll F xs ds) : ∀ n : Nat, DtAll F (List.replicate n xs).flatten (List.replicate n ds).flatten
  | 0 => .nil
  | n + 1 => by
    rw [List.replicate_succ, List.replicate_succ, List.flatten_cons, List.flatten_cons]
    exact h.append (DtAll.flat h n)
theorem oS_mulL : OpS k rRep dMulL := fun c Γ σ F W H x y a b res Q so rx ry e f => by
  unfold dMulL at e
  split at e
  · rename_i ds j
    split at e
    · rename_i hz
      cases e
      obtain ⟨h1, h2⟩ := Bool.and_eq_true_iff.mp hz
      simp only [small62, Bool.and_eq_true, decide_eq_true_eq] at h1 h2
      obtain ⟨q, vs, rfl, hq, dt⟩ := rx.lst so.sub
      exact ⟨q, j, vs, rfl, ry.int, hq, by omega, by omega, by rw [dt.length]; exact mil h2, newLst so (dt.flat _) f⟩
    · cases e
  · cases e
/-! a, b = x, y -/
def setV2 (i j : Nat) (dx dy : PyData) : M Fl := fun Γ => if i < Γ.length ∧ j < Γ.length then .ok .nx ((Γ.set i (.val dx)).set j (.val dy)) else .bad
def par2 (i j : Nat) (fx fy : M R) : M Fl := fx.bnd fun rx => (stD rx).bnd fun dx => fy.bnd fun ry => (stD ry).bnd fun dy => setV2 i j dx dy
theorem ss_par2 {i j : Nat} {x y : Str} {a b : Expr} {fx fy : M R} {px py pt : Pos} {kt k2 pt2} (hc : X.calm = true) (hN : X.N.Nodup) (hi : X.N[i]? = some x) (hj : X.N[j]? = some y) (hij : i ≠ j)
    (hx : X.env.scope.names.lookup x = some .local) (hy : X.env.scope.names.lookup y = some .local) (ha : PE X a (tE k fx E)) (hb : PE X b (tE k fy E))
    (hw : swappedStores [.Tuple [.Name x px, .Name y py] kt pt] (.Tuple [a, b] k2 pt2) X.env = pure (some [x, y]))
    (hs : swapsWithSole [.Tuple [.Name x px, .Name y py] kt pt] (.Tuple [a, b] k2 pt2) pos.line X.env = pure false := by rfl)
    (n1 : starEach [a, b] X.env = (false, eval a X.env) :: starEach [b] X.env := by rfl) (n2 : starEach [b] X.env = (false, eval b X.env) :: starEach [] X.env := by rfl) :
    PS X (.Assign [.Tuple [.Name x px, .Name y py] kt pt] (.Tuple [a, b] k2 pt2) pos) (tS k (par2 i j fx fy) E) :=
  (ps_par (i := i) (j := j) hc hN hi hj hij hx hy (pa_cons ha (pa_cons hb pa_nil n2) n1) hw hs).imp fun D σ H ⟨c, Γ, F, W, so, po⟩ => ⟨c, Γ, F, W, so, po.seqE fun r Γ1 v F1 W1 H1 so1 sm1 r1 po1 => by
    obtain ⟨dx, Γ2, F2, W2, so2, sm2, dt, po2⟩ := st_stepS so1 r1 po1
    refine ⟨c, Γ2, F2, W2, so2, po2.seqE fun r3 Γ3 v3 F3 W3 H3 so3 sm3 r3 po3 => ?_⟩
    obtain ⟨dy, Γ4, F4, W4, so4, sm4, dt4, po4⟩ := st_stepS so3 r3 po3
    unfold setV2 at po4
    split at po4
    · rename_i hl
      have s5 := so4.setV (dt.mono (sm3.trans sm4)) hl.1
      have s6 := s5.setV (i := j) dt4 (by simpa using hl.2)
      exact ⟨v, v3, rfl, po4 _ F4 W4 H3 s6 (Same.refl F4)⟩
    · exact po4.elim⟩
end
end Rt
namespace Rt
open PySem PySem.Spec PyProof.Rows L2
theorem _root_.L2.Room.u65 {k : Nat} {A : Around} (r : Room k A) : A.units + 65 < cLine := by have := r.un; omega
theorem _root_.L2.Room.u70 {k : Nat} {A : Around} (r : Room k A) : A.units + 70 < cLine := by have := r.un; omega
theorem _root_.L2.Room.u1 {k : Nat} {A : Around} (r : Room k A) : A.units + 1 < cLine := by have := r.un; omega
section
variable {k : Kx} {X : Cx} {E : L2.St → XK} {pos p p2 apos : Pos} {e a b c : Expr} {fa fb fc f : M R} {rest : List Expr} {ta tb : M Bool}
def dMulA : PyData → PyData → Option R := fun a b => match dMulI a b with
  | some x => some x
  | none => dMulL a b
theorem op_mulA : OpR X (binaryOp .Mult) (fun x y H Q => (rI CMul fun i j => .int (i * j)) x y H Q ∨ rRep x y H Q) := op_mul.or op_rep
theorem oS_mulA : OpS k (fun x y H Q => (rI CMul fun i j => .int (i * j)) x y H Q ∨ rRep x y H Q) dMulA := oS_mulI.or oS_mulL
def dNeg : PyData → Option R
  | .int i => some (.val (.int (-i)))
  | _ => none
theorem se_neg (ha : PE X a (tE k fa E)) : PE X (.UnaryOp .USub a pos) (tE k (fa.bnd fun r => un1 dNeg r) E) := (pe_un un_neg ha).imp fun σ H Q ⟨c, Γ, F, W, so, po⟩ => ⟨c, Γ, F, W, so, po.seq fun r Γ1 x F1 W1 H1 so1 sm1 r1 po1 => by
  unfold un1 at po1
  split at po1
  · rename_i d hd
    have rd := so1.rd r1 hd
    split at po1
    · rename_i res hr
      unfold dNeg at hr
      split at hr
      · cases hr
        exact ⟨_, rd.int, Fin.here so1 po1 (.int _)⟩
      · cases hr
    · exact po1.elim
  · exact po1.elim⟩
theorem sw_and1 (ha : PT X a (tT k ta E)) : PW X (.BoolOp .And [a] pos) (tT k ta E) := pw_and1 ha
theorem sw_or1 (ha : PT X a (tT k ta E)) : PW X (.BoolOp .Or [a] pos) (tT k ta E) := pw_or1 ha
theorem gsN_nil : PGs X [] (gNs []) := pgs_nil
theorem gsN_cons {i : Nat} {is : List Nat} {es : List Expr} (h1 : PG X e (gName i)) (h2 : PGs X es (gNs is)) (hs : (assignEach (e :: es) X.env).map (·.2) = assign e X.env :: (assignEach es X.env).map (·.2) := by rfl) : PGs X (e :: es) (gNs (i :: is)) := pgs_cons h1 h2 hs
theorem g_tup {es : List Expr} {kk n : Nat} {is : List Nat} (hk : X.K = k.K) (hc : X.calm = true) (h : PGs X es (gNs is)) (hn : (assignEach es X.env).length = n := by rfl) (hst : (assignEach es X.env).findIdx? (·.1) = none := by rfl) : PG X (.Tuple es kk pos) (gTup k.K n (gNs is)) := by
  rw [← hk]; exact pg_tup hc h hn hst
end
/-! ### defs that let nothing out -/
def fnP (f : M Fl) (m : Nat) : En → Rs R := fnM (noX f) m
theorem bodyP_ok {k : Kx} {n m : Nat} {f : M Fl} {N : List Str} (hN : N.length = n + m) {vs : List V} {H : Hp} {Q : VK} {E : XK} (h : spF k n (fnP f m) vs H Q E) : tS k f E0' { nx := fun _ H' => Q .non H', rt := Q } (L2.start N vs) H := by
  obtain ⟨c, Γ, F, W, so, po⟩ := body_ok (E := E) hN h
  refine ⟨c, Γ, F, W, so, ?_⟩
  unfold noX at po
  cases e : f Γ with
  | ok a g =>
    rw [e] at po
    cases a <;> exact po
  | exc n g => rw [e] at po; exact po.elim
  | bad => rw [e] at po; exact po.elim
theorem passS {X : Cx} (σ : L2.St) : PassesAt (L2.CX X.prog X.w) X σ (E0' σ) := fun pins H s e s' I c => passL pins σ H s e s' I c
/-- the def x keeps the promise of g -/
def Fok (P : Program) (w : World) (K : PySem.W.Frag) (mg : Str → Option Value) (base : Heap) (C : Nat → Addr) (lv : Nat) (x : Str) (ps : List Str) (g : En → Rs R) : Prop :=
  ∃ fd, FnOk P w K mg base (L2.CX P w) lv (He.ga K x) fd ps (spF ⟨K, C⟩ ps.length g) ∧ Binds K fd ps [] ∧ PySem.W.keepIn K (.ref (He.ga K x)) = true ∧ mg x = some (.ref (He.ga K x))
section
variable {X : Cx} {C : Nat → Addr} {E : L2.St → XK} {lv j : Nat} {x : Str} {ps : List Str} {g : En → Rs R} {fs : M (List R)} {e : Expr} {es : List Expr} {p pos : Pos}
theorem sc {n : Nat} (Fn : Fok X.prog X.w X.K X.mg X.base C lv x ps g) (hr : Room j X.A) (hj : lv ≤ j) (hn : ps.length = n) (hg : Gl X x) (hx : ∀ σ, PassesAt (L2.CX X.prog X.w) X σ (E σ)) (ha : PA X (e :: es) (tA ⟨X.K, C⟩ fs E))
    (hdb : (x == ("__debug__" : Str)) = false := by decide) (he : starEach (e :: es) X.env = (false, eval e X.env) :: starEach es X.env := by rfl) (hpl : (backTo pos (starEach es X.env)).any (·.1) = false := by rfl) :
    PE X (.Call (.Name x p) (e :: es) [] pos) (tE ⟨X.K, C⟩ (callV n g fs) E) := by
  subst hn
  obtain ⟨fd, h1, h2, h3, h4⟩ := Fn
  exact se_call h1 (hr.mono hj) hg h4 h3 h2 hx ha hdb he hpl
theorem sc0 {n : Nat} (Fn : Fok X.prog X.w X.K X.mg X.base C lv x ps g) (hr : Room j X.A) (hj : lv ≤ j) (hn : ps.length = n) (hg : Gl X x) (hx : ∀ σ, PassesAt (L2.CX X.prog X.w) X σ (E σ)) (hdb : (x == ("__debug__" : Str)) = false := by decide) :
    PE X (.Call (.Name x p) [] [] pos) (tE ⟨X.K, C⟩ (callV n g aNil) E) := by
  subst hn
  obtain ⟨fd, h1, h2, h3, h4⟩ := Fn
  exact se_call0 h1 (hr.mono hj) hg h4 h3 h2 hx hdb
theorem scio {n : Nat} (Fn : Fok X.prog X.w X.K X.mg X.base C lv x ps g) (hr : Room j X.A) (hj : lv ≤ j) (hn : ps.length = n) (hg : Gl X x) (hx : ∀ σ, PassesAt (L2.CX X.prog X.w) X σ (E σ)) (ha : PA X (e :: es) (tA ⟨X.K, C⟩ fs E))
    (hdb : (x == ("__debug__" : Str)) = false := by decide) (he : starEach (e :: es) X.env = (false, eval e X.env) :: starEach es X.env := by rfl) (hpl : (backTo pos (starEach es X.env)).any (·.1) = false := by rfl) :
    PE X (.Call (.Name x p) (e :: es) [] pos) (tE ⟨X.K, C⟩ (callIO n g fs) E) := by
  subst hn
  obtain ⟨fd, h1, h2, h3, h4⟩ := Fn
  exact se_callIO h1 (hr.mono hj) hg h4 h3 h2 hx ha hdb he hpl
end
section
variable {P : Program} {w : World} {K : PySem.W.Frag} {mg : Str → Option Value} {base : Heap} {C : Nat → Addr}
theorem Fok.mono {i j : Nat} {x : Str} {ps : List Str} {g : En → Rs R} (h : Fok P w K mg base C i x ps g) (hij : i ≤ j) : Fok P w K mg base C j x ps g := by
  obtain ⟨fd, h1, h2⟩ := h
  exact ⟨fd, h1.mono hij, h2⟩
/-- a def of the text, walked where nothing is let out -/
theorem fokP {x : Str} {st : Stmt} {ps N : List Str} {lv m : Nat} {f : M Fl} (F : ∃ fd, FunD K x x (defArgs st) (defBody st) (defScope st) [] [] (He.ga K x) fd) (hg : mg x = some (.ref (He.ga K x))) (S : FnScope N ps (defScope st)) (hN : N.length = ps.length + m)
    (hb : ∀ (kV doc pm : Value) (an : Option Addr) (cdv ct : Value) (us : List Value), us.length = ps.length → bindArgs (PySem.W.fnOf x x (defArgs st) (defBody st) (defScope st) .none kV doc pm an cdv ct) ⟨us, []⟩ = pure (ps.zip us))
    (hbody : ∀ (cdv : Value) (A : Around) (outer : List Env) (s : Shared) (H : Hp) (E : XK), Room lv (A.deeper (envOfC x (defScope st) s.heap.objs.size (He.ga K x) cdv)) →
      PSs (cxOf (L2.CX P w) P w K mg base N x (defScope st) (He.ga K x) cdv A outer s H E).nox (defBody st) (tS ⟨K, C⟩ f E0')) : Fok P w K mg base C (lv + 1) x ps (fnP f m) := by
  obtain ⟨fd, F⟩ := F
  refine ⟨fd, F.ok S spF_len fun cdv A outer s H vs Q E hr h => ⟨_, (hbody cdv A outer s H E hr).nox, bodyP_ok hN h⟩, F.bindsN hb, F.kp, hg⟩
/-- a def of the text that may raise -/
def fnX (f : M Fl) (m : Nat) : En → Rs R := fnM f m
theorem fokX {x : Str} {st : Stmt} {ps N : List Str} {lv m : Nat} {f : M Fl} (F : ∃ fd, FunD K x x (defArgs st) (defBody st) (defScope st) [] [] (He.ga K x) fd) (hg : mg x = some (.ref (He.ga K x))) (S : FnScope N ps (defScope st)) (hN : N.length = ps.length + m)
    (hb : ∀ (kV doc pm : Value) (an : Option Addr) (cdv ct : Value) (us : List Value), us.length = ps.length → bindArgs (PySem.W.fnOf x x (defArgs st) (defBody st) (defScope st) .none kV doc pm an cdv ct) ⟨us, []⟩ = pure (ps.zip us))
    (hbody : ∀ (cdv : Value) (A : Around) (outer : List Env) (s : Shared) (H : Hp) (E : XK), Room lv (A.deeper (envOfC x (defScope st) s.heap.objs.size (He.ga K x) cdv)) →
      Takes (cxOf (L2.CX P w) P w K mg base N x (defScope st) (He.ga K x) cdv A outer s H E) (fun cls d _ H' => E cls d H') →
      PassesOwn (model P w) (cxOf (L2.CX P w) P w K mg base N x (defScope st) (He.ga K x) cdv A outer s H E).A (cxOf (L2.CX P w) P w K mg base N x (defScope st) (He.ga K x) cdv A outer s H E).env (cxOf (L2.CX P w) P w K mg base N x (defScope st) (He.ga K x) cdv A outer s H E).xe →
      PSs (cxOf (L2.CX P w) P w K mg base N x (defScope st) (He.ga K x) cdv A outer s H E) (defBody st) (tS ⟨K, C⟩ f (fun _ => E))) : Fok P w K mg base C (lv + 1) x ps (fnX f m) := by
  obtain ⟨fd, F⟩ := F
  refine ⟨fd, F.ok S spF_len fun cdv A outer s H vs Q E hr h => ⟨_, hbody cdv A outer s H E hr (takes_of rfl rfl rfl rfl) (passes_of rfl), body_ok hN h⟩, F.bindsN hb, F.kp, hg⟩
theorem fok_bad {x : Str} {ps : List Str} (F : ∃ fd, FnOk P w K mg base (L2.CX P w) 0 (He.ga K x) fd ps (spF ⟨K, C⟩ ps.length fun _ => .bad) ∧ Binds K fd ps [] ∧ PySem.W.keepIn K (.ref (He.ga K x)) = true ∧ mg x = some (.ref (He.ga K x))) : Fok P w K mg base C 0 x ps fun _ => .bad := F
theorem fok0 {x : Str} {st : Stmt} {ps : List Str} (F : ∃ fd, FunD K x x (defArgs st) (defBody st) (defScope st) [] [] (He.ga K x) fd) (hg : mg x = some (.ref (He.ga K x)))
    (hb : ∀ (kV doc pm : Value) (an : Option Addr) (cdv ct : Value) (us : List Value), us.length = ps.length → bindArgs (PySem.W.fnOf x x (defArgs st) (defBody st) (defScope st) .none kV doc pm an cdv ct) ⟨us, []⟩ = pure (ps.zip us)) : Fok P w K mg base C 0 x ps fun _ => .bad := by
  obtain ⟨fd, F⟩ := F
  exact ⟨fd, ⟨spF_len, fun A outer s H args us vs Q E hr he hbn hv hs => by
    obtain ⟨c, Γ, F, W, _, _, po⟩ := hs
    exact po.elim⟩, F.bindsN hb, F.kp, hg⟩
end
end Rt
namespace Rt
open PySem PySem.Spec PyProof.Rows L2
/-! ### the draws of a law -/
/-- a small cell, hashed -/
def hashD (cell n limit : Int) : Int :=
  let m := ((cell + 104729 * n) % 4294967291) ^ 5 % 4294967279
  (m / 64 * 69621 + m) % 4294967231 / 8 % limit
def drawV (ns : List Int) (n limit : Int) : Int :=
  let a := ((n + 1) % (ns.length : Int)).toNat
  if 1000000000000000000 ≤ ns.getD a 0 then ns.getD a 0 % limit else hashD (ns.getD a 0) (n + 1) limit
def drawN (ns : List Int) (n limit : Int) : List Int :=
  let a := ((n + 1) % (ns.length : Int)).toNat
  if 1000000000000000000 ≤ ns.getD a 0 then ns.set a (ns.getD a 0 / limit) else ns
theorem drawV_lo {ns : List Int} {n limit : Int} (h : 0 < limit) : 0 ≤ drawV ns n limit := by
  unfold drawV
  dsimp only
  split
  · exact Int.emod_nonneg _ (by omega)
  · exact Int.emod_nonneg _ (by omega)
theorem drawV_hi {ns : List Int} {n limit : Int} (h : 0 < limit) : drawV ns n limit < limit := by
  unfold drawV
  dsimp only
  split
  · exact Int.emod_lt_of_pos _ h
  · exact Int.emod_lt_of_pos _ h
theorem drawN_length (ns : List Int) (n limit : Int) : (drawN ns n limit).length = ns.length := by
  unfold drawN
  dsimp only
  split
  · rw [List.length_set]
  · rfl
def drawOk (ns : List Int) (limit : Int) : Bool := decide (0 < ns.length) && decide (ns.length ≤ 63) && decide (0 < limit) && decide (limit < 1000000)
def g_L_draw : En → Rs R := fun Γ => match Γ with
  | [.own (some 0) (.drw ns n), .val (.int limit)] => if drawOk ns limit then .ok (.val (.int (drawV ns n limit))) [.own (some 0) (.drw (drawN ns n limit) (n + 1)), .val (.int limit)] else .bad
  | _ => .bad
theorem draw_enter {k : Kx} {vs : List V} {H : Hp} {Q : VK} {E : XK} (h : spF k 2 g_L_draw vs H Q E) : ∃ (p q : Addr) (ns : List Int) (n limit : Int), vs = [.ref p, .int limit] ∧ q ≠ p ∧ H p = some (.lst [.ref q, .int n]) ∧ H q = some (.lst (ns.map V.int)) ∧
    (0 < ns.length ∧ ns.length ≤ 63 ∧ 0 < limit ∧ limit < 1000000) ∧ Q (.int (drawV ns n limit)) (upd (upd H p (.lst [.ref q, .int (n + 1)])) q (.lst ((drawN ns n limit).map V.int))) := by
  obtain ⟨c, Γ, F, W, hl, so, po⟩ := h
  unfold g_L_draw at po
  split at po
  · rename_i ns n limit
    split at po
    · rename_i hd
      simp only [drawOk, Bool.and_eq_true, decide_eq_true_eq] at hd
      obtain ⟨p, h1, h2, hw, q, hw2, hne, hp, hq⟩ := so.sl 0 _ rfl
      obtain ⟨v, h3, h4⟩ := so.sl 1 _ rfl
      have ev : v = .int limit := h4.int_of
      subst ev
      match vs, hl with
      | [a, b], _ =>
        cases (Option.some.inj (Option.some.inj h1))
        cases (Option.some.inj (Option.some.inj h3))
        refine ⟨p, q, ns, n, limit, rfl, hne, hp, hq, ⟨hd.1.1.1, hd.1.1.2, hd.1.2, hd.2⟩, po _ [some (.ref p), some (.int limit)] F W _ ?_ (Same.refl F) (.int _)⟩
        have own' : OwnOk k F (upd (upd H p (.lst [.ref q, .int (n + 1)])) q (.lst ((drawN ns n limit).map V.int))) (fun a => W a = some (.slot 0)) p (.drw (drawN ns n limit) (n + 1)) :=
          ⟨hw, q, hw2, hne, by rw [upd_ne (Ne.symm hne), upd_same], upd_same⟩
        have np : ∀ a, W a ≠ some (.slot 0) → upd (upd H p (.lst [.ref q, .int (n + 1)])) q (.lst ((drawN ns n limit).map V.int)) a = H a := fun a ha => by
          rw [upd_ne (fun z => ha (by rw [z]; exact hw2)), upd_ne (fun z => ha (by rw [z]; exact hw))]
        refine ⟨fun b u e => ?_, fun a u e => ?_, fun a i e => ?_, fun i s hs => ?_, rfl⟩
        · rw [np b (fun z => by have := (so.ow b _ z).1; rw [this] at e; cases e)]; exact so.sub b u e
        · obtain ⟨q1, q2, q3⟩ := so.fr a u e
          exact ⟨by rw [np a (by rw [q3]; exact fun z => nomatch z)]; exact q1, q2, q3⟩
        · obtain ⟨q1, u, q2⟩ := so.ow a i e
          refine ⟨q1, ?_⟩
          by_cases z1 : a = q
          · subst z1; exact ⟨_, upd_same⟩
          · rw [upd_ne z1]
            by_cases z2 : a = p
            · subst z2; exact ⟨_, upd_same⟩
            · rw [upd_ne z2]; exact ⟨u, q2⟩
        · match i, hs with
          | 0, hs => cases hs; exact ⟨p, rfl, h2, own'⟩
          | 1, hs => cases hs; exact ⟨_, rfl, .int _⟩
          | i + 2, hs => cases hs
    · exact po.elim
  · exact po.elim
/-- _law_start(script) -/
def startL (ns : List Int) : List Int := if ns = [] then [0] else ns
def spStart (K : PySem.W.Frag) : Sp := fun vs H Q E => ∃ (a : Addr) (ns : List Int), vs = [.ref a] ∧ SqL K H a (ns.map V.int) ∧ ns.length ≤ 63 ∧
  ∀ H1 p q, Same H H1 → H1 p = none → H1 q = none → q ≠ p → Q (.ref p) (upd (upd H1 q (.lst ((startL ns).map V.int))) p (.lst [.ref q, .int 0]))
theorem if_true_of {c : Bool} {A B : Prop} (hc : c = true) (h : A) : if c = true then A else B := by rw [if_pos hc]; exact h
theorem if_false_of {c : Bool} {A B : Prop} (hc : c = false) (h : B) : if c = true then A else B := by rw [hc, if_neg Bool.false_ne_true]; exact h
theorem lay_ints : ∀ ns : List Int, PyData.canLayAll0 (ns.map PyData.int) = true
  | [] => by simp [PyData.canLayAll0]
  | n :: ns => by
    rw [List.map_cons, PyData.canLayAll0, lay_ints ns]
    simp [PyData.canLay0]
theorem shaped_ints (ns : List Int) : SeqAt.shaped (.list (ns.map PyData.int)) = true := by
  unfold SeqAt.shaped
  rw [PyData.canLay0, lay_ints, PyData.depth, PySem.W.depth_ints]
  rfl
theorem eqv_nil : ∀ ns : List Int, PyData.eqv (.list (ns.map PyData.int)) (.list []) = decide (ns = [])
  | [] => by simp [PyData.eqv, PyData.eqvAll]
  | n :: ns => by simp [PyData.eqv, PyData.eqvAll]
theorem dp_ints {K : PySem.W.Frag} {H : Hp} : ∀ ns : List Int, DpAll K H (ns.map V.int) (ns.map PyData.int)
  | [] => .nil
  | n :: ns => .cons (.int n) (dp_ints ns)
/-- the law's slots behind its first statement -/
def env0 (ns : List Int) (m : Nat) : En := [.un, .own none (.drw ns 0)] ++ List.replicate m .un
/-- what is asked of the law's meaning -/
def LawTrue (f : M Fl) (m : Nat) : Prop := ∀ ns : List Int, 0 < ns.length → ns.length ≤ 63 → ∃ Γ, f (env0 ns m) = .ok (.ret (.val (.bool true))) Γ
def spLaw (K : PySem.W.Frag) : Sp := fun vs H Q E => ∃ (a : Addr) (ns : List Int), vs = [.ref a] ∧ SqL K H a (ns.map V.int) ∧ ns.length ≤ 63 ∧ ∀ H', Q (.bl true) H'
theorem law_enter {K : PySem.W.Frag} {C : Nat → Addr} {f : M Fl} {N : List Str} {m : Nat} (hN : N.length = m + 2) (ht : LawTrue f m) {vs : List V} {H : Hp} {Q : VK} {E : XK} (h : spLaw K vs H Q E) :
    tSeq (tAsg (tCall (spStart K) [] E0 (tCons (tVar 0) tNil)) (gName 1)) (tS ⟨K, C⟩ f E0') { nx := fun _ H' => Q .non H', rt := Q } (L2.start N vs) H := by
  obtain ⟨a, ns, rfl, hs, hn, hQ⟩ := h
  refine ⟨_, rfl, a, ns, rfl, hs, hn, fun H1 p q sm hp hq hpq => ?_⟩
  have sl : 0 < (startL ns).length ∧ (startL ns).length ≤ 63 := by
    unfold startL
    split
    · exact ⟨by decide, by decide⟩
    · rename_i h0
      exact ⟨List.length_pos_iff.mpr h0, hn⟩
  obtain ⟨Γ', e⟩ := ht (startL ns) sl.1 sl.2
  have e1 : (L2.start N [.ref a]).set 1 (some (.ref p)) = [some (.ref a), some (.ref p)] ++ List.replicate m none := by
    unfold L2.start
    rw [hN]
    have : m + 2 - [V.ref a].length = m + 1 := rfl
    rw [this, List.replicate_succ]
    rfl
  refine ⟨⟨H1, fun _ => 0⟩, env0 (startL ns) m, fun _ => none, fun x => if x = p ∨ x = q then some (.slot 1) else none, ⟨fun b u z => (by cases z), fun x u z => ?_, fun x i z => ?_, fun i s hi => ?_, ?_⟩, ?_⟩
  · have z : H1 x = some u := z
    have n1 : x ≠ p := fun y => by rw [y, hp] at z; cases z
    have n2 : x ≠ q := fun y => by rw [y, hq] at z; cases z
    exact ⟨by rw [upd_ne n1, upd_ne n2]; exact z, rfl, if_neg (by rintro (y | y); exact n1 y; exact n2 y)⟩
  · refine ⟨rfl, ?_⟩
    split at z
    · rename_i y
      by_cases y1 : x = p
      · subst y1; exact ⟨_, upd_same⟩
      · rw [upd_ne y1]
        rcases y with y | y
        · exact absurd y y1
        · subst y; exact ⟨_, upd_same⟩
    · cases z
  · show SlOk _ _ ((L2.start N [.ref a]).set 1 (some (.ref p))) _ _ _ i s
    rw [e1]
    match i, hi with
    | 0, hi => cases hi; trivial
    | 1, hi =>
      cases hi
      refine ⟨p, rfl, (fun j z => by cases z), if_pos (.inl rfl), q, if_pos (.inr rfl), hpq, upd_same, ?_⟩
      rw [upd_ne hpq]; exact upd_same
    | i + 2, hi =>
      have hi : (List.replicate m Sl.un)[i]? = some s := hi
      rw [List.getElem?_replicate] at hi
      split at hi
      · cases hi; trivial
      · cases hi
  · show ((L2.start N [.ref a]).set 1 (some (.ref p))).length = _
    rw [e1]; simp [env0]
  · rw [e]
    intro v σ' F' W' H' so' sm' r'
    have : v = .bl true := Dt.bl_of r'
    subst this
    exact hQ H'
end Rt
namespace Rt
open PySem PySem.Spec PyProof.Rows L2
/-! ### a caught exception is kept in a name -/
theorem excO_ok {P : Program} {w : World} {H : Hp} {h : Heap} {a : Addr} {cls : Value} {oe : Obj} {vs : Array Value} (e : h.get? a = some oe) (z : Zc cls none oe) (d : oe.data = .fields vs) : ObjOk P w H h a (ExcO cls a) :=
  ⟨⟨oe, vs, e, z, d⟩, ⟨oe, e⟩, fun h1 h2 ⟨o, us, q1, q2, q3⟩ k => ⟨o, us, k _ q1, q2, q3⟩⟩
theorem adopt {X : Cx} {pins : List (Addr × Obj)} {σ : L2.St} {H : Hp} {s : Shared} {a : Addr} {cls : Value} {oe : Obj} {vs : Array Value} (I : Inv X pins σ H s) (e : s.heap.get? a = some oe) (z : Zc cls none oe) (d : oe.data = .fields vs) (na : H a = none)
    (n0 : X.s_0.heap.get? a = none) (np : ∀ p ∈ X.pn ++ pins, p.1 ≠ a) (nL : X.env.locals ≠ a) : Inv X pins σ (upd H a (ExcO cls a)) s := by
  have nc : ∀ x c, X.env.cells.lookup x = some c → c ≠ a := fun x c hc hca => by
    obtain ⟨v, o, ho, hd⟩ := I.cell x c hc
    rw [hca, e] at ho
    cases ho
    rw [d] at hd
    cases hd
  have nt : ∀ {b : Addr} {o : HO}, H b = some o → b ≠ a := fun {b o} q w => by rw [w, na] at q; cases q
  refine ⟨I.ok, I.os, I.bare, ⟨I.base.keep, I.base.slot, fun b o q n hx => ?_, I.base.there, fun b xs q => ?_, fun b o u q => ?_, fun b ps q => ?_⟩, I.loc, I.cell, ?_, fun x c hc => ?_, fun p hp => ?_, ?_, I.len⟩
  · rw [upd_ne (fun w => by rw [w, n0] at q; cases q)]
    exact I.base.free b o q n hx
  · have q1 := I.base.tups b xs q
    rw [upd_ne (nt q1)]; exact q1
  · have q1 := I.base.frzs b o u q
    rw [upd_ne (nt q1)]; exact q1
  · obtain ⟨m, q1⟩ := I.base.tbls b ps q
    exact ⟨m, by rw [upd_ne (nt q1)]; exact q1⟩
  · rw [upd_ne nL]; exact I.free
  · rw [upd_ne (nc x c hc)]; exact I.freeC x c hc
  · obtain ⟨q1, q2, q3⟩ := I.pin p hp
    exact ⟨q1, by rw [upd_ne (np p hp)]; exact q2, q3⟩
  · exact HOk.laidN I.hok (fun _ _ q => q) na (excO_ok e z d)
/-- what the clause wishes: the exception's class is c or below it; e is gone, y holds it -/
def wKeep (K : PySem.W.Frag) (c : Value) (i j : Nat) (D : Ends) : WX := fun cls d σ H => PySem.W.exmOne K cls c = some true ∧ d = none ∧ ∀ a, H a = none → D.nx (((σ.set i (some (.ref a))).set j (some (.ref a))).set i none) (upd H a (ExcO cls a))
/-- what a try's clauses ask of what leaves its body -/
abbrev xeTry (X : Cx) (pins : List (Addr × Obj)) (D : Ends) (hs : List ExceptHandler) : Value → Shared → Prop := fun e s =>
  wpAny (model X.prog X.w) X.A (noteFrame e X.env) (fun _ t => wpAny (model X.prog X.w) X.A (setFlight e none)
    (fun _ v => wpAny (model X.prog X.w) X.A (handleBy e X.env hs) (SP X pins D) X.xe v) X.xe t) X.xe s
section
variable {X : Cx} {x n y : Str} {c : Value} {i j : Nat} {body : List Stmt} {np pn' py pa pos pos' : Pos} {tb : WX → TS}
theorem try_keep (hex : X.ex = []) (hs : X.stack = X.env :: X.outer) (hf : X.env.frame = some X.env.locals) (hN : X.N.Nodup) (hi : X.N[i]? = some n) (hln : X.env.kindOf n = some .local) (hc : Names X x c)
    (hb : ∀ (W : WX) (pn : List (Addr × Obj)) (xe : Value → Shared → Prop), Takes (X.tr pn xe) W → PassesOwn (model X.prog X.w) X.A X.env xe → PSs (X.tr pn xe) body (tb W))
    (hsu : ∀ (a : Addr) (pn : List (Addr × Obj)), PSs (X.suite a pn) [.Assign [.Name y py] (.Name n pn') pa] (tAsg (tVar i) (gName j))) :
    PS X (.Try body [.ExceptHandler (some (.Name x np)) (some n) [.Assign [.Name y py] (.Name n pn') pa] pos'] [] [] pos) (fun D σ H => tb (wKeep X.K c i j D) D σ H) := by
  refine ⟨fun pins s σ H D I h => ?_⟩
  have good := I.ok
  have frames : X.A.frames = some (X.env :: X.outer) := by rw [good.frames, hs]
  apply wpAny_Try_except
  apply wpAny_mono ((hb (wKeep X.K c i j D) (X.pn ++ pins) (xeTry X pins D [.ExceptHandler (some (.Name x np)) (some n) [.Assign [.Name y py] (.Name n pn') pa] pos']) ?caught PassesOwn.looking).run [] s σ H D (I.toTry _) h)
  case caught =>
    rintro u s1 ⟨a, B, s0, ps, σ1, H1, cls, d, rfl, J0, ground, ups, sky, na, os, ag, hm, rfl, hq⟩
    have J : Inv X pins σ1 H1 s0 := J0.ofTry good
    rw [hs] at sky
    have ba : B.get? a = none := by
      rcases sky with q | q | q
      · exact q.2.1
      · exact q.2.1
      · exact q.2.1
    refine Sky.land Zc.steady frames hf sky fun h3 fly up3 => ?_
    obtain ⟨o3, v3, e3, z3, d3⟩ := fly.there
    have out : a ∉ frs (X.env :: X.outer) := fun m => by
      obtain ⟨_, o', e', no⟩ := fly.2.2.1.mem m
      rw [e3] at e'
      cases e'
      exact no _ d3
    have nL : a ≠ X.env.locals := fun q => out (List.mem_filterMap.mpr ⟨X.env, List.mem_cons_self, by rw [hf, q]⟩)
    have nF : a ∉ X.fs := fun m => by
      obtain ⟨v, hv, q⟩ := List.mem_filterMap.mp m
      exact out (List.mem_filterMap.mpr ⟨v, List.mem_cons_of_mem _ hv, q⟩)
    have n00 : s0.heap.get? a = none := by
      cases q : s0.heap.get? a with
      | none => rfl
      | some o =>
        have := ground a o q (by rw [hs]; exact out)
        rw [ba] at this
        cases this
    have n0 : X.s_0.heap.get? a = none := by
      cases q : X.s_0.heap.get? a with
      | none => rfl
      | some o =>
        obtain ⟨o', q'⟩ := J.base.there a o q (by rw [hex]; exact fun z => nomatch z)
        rw [n00] at q'
        cases q'
    have npin : ∀ p ∈ X.pn ++ pins, p.1 ≠ a := fun p hp q => by
      have := (J.pin p hp).1
      rw [q, n00] at this
      cases this
    have J3 : Inv X pins σ1 H1 { s1 with heap := h3 } := J.landed ground fly.1 (ups.trans up3) os ag
    have S3 := J3.suite e3 d3 na nL nF
    refine wpAny_handleBy_cons (codeAny_handlers_test ?_) (by intro q; cases q)
    have isT : PySem.W.Looks (model X.prog X.w) h3 (typeOf (.ref a)) cls := fun A Q E s k q => wpAny_typeOf_ref (k _ _ e3) (by rw [z3.1]; exact q)
    have mat := PySem.W.exm_one (M := model X.prog X.w) J3.kIn isT hm
    have named : ∀ {Q E : Value → Shared → Prop}, Q c { s1 with heap := h3 } → wpAny (model X.prog X.w) (X.A.mark (some (.ref a))) (eval (.Name x np) X.env) Q E { s1 with heap := h3 } := fun {Q E} q => by
      obtain ⟨g1, g2, g3 | ⟨g3, g4, g5⟩⟩ := hc
      · exact ld_glob (X := X.suite a ((a, o3) :: (X.pn ++ pins))) S3 g1 g3 q g2
      · exact ld_blt (X := X.suite a ((a, o3) :: (X.pn ++ pins))) S3 g1 g3 g4 q g5 g2
    refine named (mat.here (codeAny_handlers_suite_as (HandSPX.lands_againZ fly fun h4 fly4 up4 => ?_)))
    have J4 : Inv X pins σ1 H1 { s1 with heap := h4 } := J.landed ground fly4.1 ((ups.trans up3).trans up4) os ag
    obtain ⟨o4, v4, e4, z4, d4⟩ := fly4.there
    have S4 := J4.suite e4 d4 na nL nF
    refine store_ok (X := X.suite a ((a, o4) :: (X.pn ++ pins))) (v := .ref a) S4 hN hi (.inl hln) rfl (fun s5 S5 => ?_) (.inr hln)
    have il : i < σ1.length := by
      have := (List.getElem?_eq_some_iff.mp hi).1
      have := J.len
      omega
    refine wpAny_mono ((hsu a ((a, o4) :: (X.pn ++ pins))).run [] s5 _ H1 { nx := fun σ' H' => σ' = (σ1.set i (some (.ref a))).set j (some (.ref a)) ∧ H' = H1, rt := fun _ _ => False } S5 ⟨.ref a, by simp [il], rfl, rfl⟩) (fun f s6 fin => ?_) (fun _ _ z => False.elim z)
    cases f with
    | next =>
      obtain ⟨σ6, H6, S6, rfl, rfl⟩ := fin
      have e6 := (S6.pin (a, o4) (by simp)).1
      have J6 := adopt (cls := cls) (S6.unsuite good) e6 z4 d4 na n0 npin (Ne.symm nL)
      exact gone_ok J6 hN hi hln fun s7 J7 => ⟨_, _, J7, hq a na⟩
    | _ =>
      obtain ⟨_, _, _, z⟩ := fin
      first | exact z.elim | (obtain ⟨_, z⟩ := z; first | exact z.elim | (obtain ⟨_, z⟩ := z; exact z.elim))
  · intro f s1 fin
    cases f with
    | next => obtain ⟨σ', H', J, q⟩ := fin; exact wpAny_execs_nil ⟨σ', H', J.ofTry good, q⟩
    | brk => obtain ⟨σ', H', J, q⟩ := fin; exact ⟨σ', H', J.ofTry good, q⟩
    | cont => obtain ⟨σ', H', J, q⟩ := fin; exact ⟨σ', H', J.ofTry good, q⟩
    | ret u => obtain ⟨v, σ', H', J, r, q⟩ := fin; exact ⟨v, σ', H', J.ofTry good, r, q⟩
  · exact fun _ _ q => q
end
/-! ### the classes -/
def exN : Nat → Str
  | 0 => "BadSet"
  | 1 => "BadItem"
  | 2 => "BadNumber"
  | 3 => "BadText"
  | 4 => "NotFound"
  | 9 => "Marker"
  | _ => "RangeError"
def CK (K : PySem.W.Frag) (n : Nat) : Addr := He.ga K (exN n)
/-- what is known of an exception's class -/
structure XF (K : PySem.W.Frag) (mg : Str → Option Value) (n : Nat) : Prop where
  g : mg (exN n) = some (.ref (CK K n))
  e : PySem.W.excIn K (CK K n) He.veBase "ValueError.__new__" = true
  k : PySem.W.keepIn K (.ref (CK K n)) = true
  b : PySem.W.subIn K (.ref (CK K n)) (.type "BaseException") = some true
  t : PySem.W.typeIn K (.ref (CK K n)) = some (.type "type")
/-! ### raise -/
def sRaise (n : Nat) : M Fl := fun Γ => .exc n Γ
section
variable {X : Cx} {k : Kx} {W : WX}
theorem ss_raise {n j : Nat} {x m : Str} {p p2 pos pos' : Pos} (hc : X.calm = true) (tk : Takes X W) (f : XF X.K X.mg n) (hx : exN n = x) (hk : k.C n = CK X.K n) (hg : Gl X x) (hdb : (x == ("__debug__" : Str)) = false := by decide) :
    PS X (.Raise (some (.Call (.Name x p) [.Constant (.str m) j p2] [] pos)) none pos') (tS k (sRaise n) (WE W)) := by
  subst hx
  refine (ps_raise hc tk (pmk_own PySem.F.excBase_ValueError f.e f.g f.k (raises_own f.b f.t) hg hdb)).imp fun D σ H ⟨c, Γ, F, W', so, po⟩ => ?_
  have := po σ F W' H so (Same.refl F)
  rw [hk] at this
  exact this
end
/-! ### try -/
def sTry (b : M Fl) (i j : Nat) : M Fl := fun Γ => match b Γ with
  | .exc n Γ' => if n < 5 ∧ i < Γ'.length ∧ j < Γ'.length ∧ i ≠ j then .ok .nx ((Γ'.set i .un).set j (.own none (.exc n))) else .bad
  | x => x
theorem set_set_ne {α : Type} {l : List α} {i j : Nat} {a b : α} (h : i ≠ j) : (l.set i a).set j b = (l.set j b).set i a := List.set_comm a b h
theorem SOk.kept {k : Kx} {c : Gc} {Γ : En} {σ : L2.St} {F : Hp} {W : Wm} {H : Hp} {i j n : Nat} {a : Addr} (so : SOk k c Γ σ F W H) (ha : H a = none) (hi : i < Γ.length) (hj : j < Γ.length) (hij : i ≠ j) :
    SOk k c ((Γ.set i .un).set j (.own none (.exc n))) (((σ.set i (some (.ref a))).set j (some (.ref a))).set i none) F (updW W a (some (.slot j))) (upd H a (ExcO (.ref (k.C n)) a)) := by
  have fa : F a = none := so.sub.free ha
  have wa : W a = none := by
    cases e : W a with
    | none => rfl
    | some o =>
      obtain ⟨_, u, q⟩ := so.ow a o e
      rw [ha] at q
      cases q
  have hl := so.len
  refine ⟨fun b u e => ?_, fun b u e => ?_, fun b m e => ?_, fun m s hm => ?_, by simp [hl]⟩
  · rw [upd_ne (ne_of_none e fa)]; exact so.sub b u e
  · obtain ⟨h1, h2, h3⟩ := so.fr b u e
    have : b ≠ a := fun z => by rw [z, ha] at h1; cases h1
    rw [upd_ne this, updW_ne this]; exact ⟨h1, h2, h3⟩
  · by_cases hb : b = a
    · subst hb; exact ⟨fa, _, upd_same⟩
    · rw [updW_ne hb] at e; rw [upd_ne hb]; exact so.ow b m e
  · rcases set_cases hm with ⟨rfl, rfl⟩ | ⟨hne, hm⟩
    · refine ⟨a, ?_, (fun _ z => by cases z), updW_same, upd_same⟩
      rw [List.getElem?_set_ne (fun z => hij z), List.getElem?_set_self (by simp; omega)]
    · rcases set_cases hm with ⟨rfl, rfl⟩ | ⟨hne', hm⟩
      · trivial
      · have h1 := (so.sl m s hm).keep (F' := F) (W' := updW W a (some (.slot j))) (H' := upd H a (ExcO (.ref (k.C n)) a)) (Same.refl F) fun b hb => by
          have : b ≠ a := fun z => by rw [z, wa] at hb; cases hb
          rw [updW_ne this, upd_ne this]; exact ⟨hb, rfl⟩
        refine SlOk.at ?_ h1
        rw [List.getElem?_set_ne (Ne.symm hne'), List.getElem?_set_ne (Ne.symm hne), List.getElem?_set_ne (Ne.symm hne')]
section
variable {X : Cx} {k : Kx} {E : L2.St → XK} {x n y : Str} {CR : Addr} {i j : Nat} {body : List Stmt} {np pn' py pa pos pos' : Pos} {b : M Fl}
theorem ss_try (hex : X.ex = []) (hs : X.stack = X.env :: X.outer) (hf : X.env.frame = some X.env.locals) (hN : X.N.Nodup) (hi : X.N[i]? = some n) (hj : X.N[j]? = some y) (hln : X.env.kindOf n = some .local) (hly : Loc X.env.scope y) (hc : Names X x (.ref CR)) (hm : ∀ m, m < 5 → PySem.W.exmOne X.K (.ref (k.C m)) (.ref CR) = some true)
    (hb : ∀ (W : WX) (pn : List (Addr × Obj)) (xe : Value → Shared → Prop), Takes (X.tr pn xe) W → PassesOwn (model X.prog X.w) X.A X.env xe → PSs (X.tr pn xe) body (tS k b (WE W)))
    (hvn : Vis X.env.scope n := by first | exact Or.inl rfl | exact Or.inr (Or.inl rfl) | exact Or.inr (Or.inr rfl)) (hd : (n == ("__debug__" : Str)) = false := by decide) (hcd : (n == ("__classdict__" : Str)) = false := by decide)
    (hsw : swapsWith (.Name n pn') (some (.Name y py)) pa.line X.env = pure false := by rfl) (hfn : X.fn y = true ∨ X.env.scope.names.lookup y = some .local := by first | exact .inl rfl | exact .inr rfl | assumption) :
    PS X (.Try body [.ExceptHandler (some (.Name x np)) (some n) [.Assign [.Name y py] (.Name n pn') pa] pos'] [] [] pos) (tS k (sTry b i j) E) := by
  refine (try_keep (tb := fun W => tS k b (WE W)) hex hs hf hN hi hln hc hb fun a pn => pss_one (ps_set (X := X.suite a pn) (i := j) hN hj hly (pe_var hi hvn hd hcd) hsw hfn)).imp fun D σ H ⟨c, Γ, F, W, so, po⟩ => ⟨c, Γ, F, W, so, ?_⟩
  unfold sTry at po
  cases e : b Γ with
  | ok fl g =>
    rw [e] at po
    cases fl <;> exact po
  | bad => rw [e] at po; exact po
  | exc m g =>
    rw [e] at po
    simp only at po
    split at po
    · rename_i hq
      intro σ' F' W' H' so' sm'
      refine ⟨hm m hq.1, rfl, fun a ha => ?_⟩
      exact po _ F' _ _ (so'.kept ha hq.2.1 hq.2.2.1 hq.2.2.2) sm'
    · exact po.elim
end
/-! ### isinstance of a caught exception; is None -/
def rIsX (K : PySem.W.Frag) : List V → Hp → VK → Prop := fun xs H Q => ∃ (a D : Addr) (c : V) (cv : Value) (b : Bool), xs = [.ref a, c] ∧ H a = some (ExcO (.ref D) a) ∧ ExcC K D ∧ (∀ u, RelV c u → u = cv) ∧ PySem.W.kitOne K (.ref D) cv = some b ∧ Q (.bl b) H
theorem call_isX {X : Cx} : CallR X (.builtin "isinstance") (rIsX X.K) := by
  intro pins s σ H xs us Q I r h
  obtain ⟨a, D, c, cv, b, rfl, ha, C, hcv, e, q⟩ := h
  cases r with
  | cons rx rr =>
    cases rr with
    | cons rt rr =>
      cases rr
      cases rx
      obtain rfl := hcv _ rt
      obtain ⟨⟨⟨oc, od, oda, osl⟩, vs, hget, ⟨h1, h2⟩, hv⟩, _⟩ := I.hok a _ ha
      dsimp only at h1 h2 hv
      subst h1 h2 hv
      have J : PySem.W.InstAt s.heap a ⟨.ref D, none, .fields vs, osl⟩ D none := ⟨hget, rfl, rfl, trivial⟩
      exact PySem.W.kia_one (PySem.W.handS_kitx_exc C.hg C.hk C.hs C.hd C.ha C.hn C.ht C.hm) I.kIn J e (fun z => nomatch z) fun tk => ⟨.bl b, H, I.kept (t' := tk) fun _ _ z => z, rfl, q⟩
def isX (i : Nat) (t : Nat → Bool) : M R := fun Γ => match Γ[i]? with
  | some (.own _ (.exc n)) => if n < 5 then .ok (.val (.bool (t n))) Γ else .bad
  | _ => .bad
section
variable {X : Cx} {k : Kx} {E : L2.St → XK} {e a : Expr} {p pt px pos : Pos} {i : Nat}
theorem isX_ok {t : Nat → Bool} {c : V} {cv : Value} (hK : X.K = k.K) (hC : ∀ m, m < 5 → ExcC X.K (k.C m)) (hcv : ∀ u, RelV c u → u = cv) (ht : ∀ m, m < 5 → PySem.W.kitOne X.K (.ref (k.C m)) cv = some (t m)) :
    ∀ σ H Q, tE k (isX i t) E σ H Q → tCB (rIsX X.K) (tCons (tVar i) (tCons (tC c) tNil)) σ H Q := fun σ H Q ⟨g, Γ, F, W, so, po⟩ => by
  unfold isX at po
  split at po
  · rename_i kk n hg
    split at po
    · rename_i hn
      obtain ⟨q, hσ, _, hw, hq⟩ := so.sl i _ hg
      exact ⟨_, hσ, q, k.C n, c, cv, t n, rfl, hq, hC n hn, hcv, ht n hn, po _ F W H so (Same.refl F) (.bl _)⟩
    · exact po.elim
  · exact po.elim
/-- .. an own class -/
theorem se_isX {T x : Str} {CT : Addr} {t : Nat → Bool} (hK : X.K = k.K) (hg : Gl X "isinstance") (hm : X.mg "isinstance" = none) (hgT : Gl X T) (hmT : X.mg T = some (.ref CT)) (hv : PE X (.Name x px) (tVar i)) (hC : ∀ m, m < 5 → ExcC X.K (k.C m)) (ht : ∀ m, m < 5 → PySem.W.kitOne X.K (.ref (k.C m)) (.ref CT) = some (t m)) (hdT : (T == ("__debug__" : Str)) = false := by decide)
    (he : starEach [.Name x px, .Name T pt] X.env = (false, eval (.Name x px) X.env) :: starEach [.Name T pt] X.env := by rfl) (he2 : starEach [.Name T pt] X.env = (false, eval (.Name T pt) X.env) :: starEach [] X.env := by rfl) (hpl : (backTo pos (starEach [.Name T pt] X.env)).any (·.1) = false := by rfl) :
    PE X (.Call (.Name "isinstance" p) [.Name x px, .Name T pt] [] pos) (tE k (isX i t) E) :=
  (pe_callB call_isX hg hm (by decide +kernel) (pa_cons hv (pa_cons (pe_glob (v := .ref CT) hgT hmT rfl hdT) pa_nil he2) he) (by decide) (by decide) he hpl).imp (isX_ok hK hC (fun u r => r) ht)
/-- .. a built-in class -/
theorem se_isXb {T x : Str} {n : String} {t : Nat → Bool} (hK : X.K = k.K) (hg : Gl X "isinstance") (hm : X.mg "isinstance" = none) (hgT : Gl X T) (hmT : X.mg T = none) (hvT : bootBuiltins T = some (.type n)) (hv : PE X (.Name x px) (tVar i)) (hC : ∀ m, m < 5 → ExcC X.K (k.C m)) (ht : ∀ m, m < 5 → PySem.W.kitOne X.K (.ref (k.C m)) (.type n) = some (t m)) (hnT : T ≠ "__name__" := by decide) (hdT : (T == ("__debug__" : Str)) = false := by decide)
    (he : starEach [.Name x px, .Name T pt] X.env = (false, eval (.Name x px) X.env) :: starEach [.Name T pt] X.env := by rfl) (he2 : starEach [.Name T pt] X.env = (false, eval (.Name T pt) X.env) :: starEach [] X.env := by rfl) (hpl : (backTo pos (starEach [.Name T pt] X.env)).any (·.1) = false := by rfl) :
    PE X (.Call (.Name "isinstance" p) [.Name x px, .Name T pt] [] pos) (tE k (isX i t) E) :=
  (pe_callB call_isX hg hm (by decide +kernel) (pa_cons hv (pa_cons (pe_bltn (v := .ty n) hgT hmT hvT rfl hnT hdT) pa_nil he2) he) (by decide) (by decide) he hpl).imp (isX_ok hK hC (fun u r => r) ht)
/-- x is None, x a name that may hold an exception -/
def isNn : D → Bool
  | .none => true
  | _ => false
def nonM (i : Nat) : M Bool := fun Γ => match Γ[i]? with
  | some (.val d) => .ok (isNn d) Γ
  | some (.own _ (.exc _)) => .ok false Γ
  | _ => .bad
theorem st_isN {x : Str} {j : Nat} {pn : Pos} (hv : PE X (.Name x px) (tVar i)) : PT X (.Compare (.Name x px) [.Is] [.Constant .none j pn] pos) (tT k (nonM i) E) :=
  (pt_cmpR op_isN hv pe_non (nomark _)).imp fun σ H Q ⟨c, Γ, F, W, so, po⟩ => by
    unfold nonM at po
    split at po
    · rename_i d hg
      obtain ⟨u, h1, h2⟩ := so.sl i _ hg
      refine ⟨u, h1, rfl, _, rfl, ?_⟩
      have : decide (u = .non) = isNn d := by cases h2 <;> rfl
      rw [this]
      exact po _ F W H so (Same.refl F) rfl
    · rename_i kk n hg
      obtain ⟨q, h1, _⟩ := so.sl i _ hg
      exact ⟨_, h1, rfl, _, rfl, po _ F W H so (Same.refl F) rfl⟩
    · exact po.elim
end
/-! ### list.count, list.index of bools -/
def rCountB (K : PySem.W.Frag) : V → List V → Hp → VK → Prop := fun x xs H Q => ∃ (a : Addr) (b : Bool) (bs : List Bool), x = V.ref a ∧ xs = [.bl b] ∧ SqL K H a (bs.map V.bl) ∧ bs.length ≤ 1000 ∧ Q (.int (bs.count b : Nat)) H
theorem plain_bools : ∀ bs : List Bool, PyData.plainAll (bs.map PyData.bool) = true
  | [] => by simp [PyData.plainAll]
  | b :: bs => by simp [PyData.plainAll, PyData.plain, plain_bools bs]
theorem depth_bools : ∀ bs : List Bool, PyData.depthAll (bs.map PyData.bool) = 0
  | [] => by simp [PyData.depthAll]
  | b :: bs => by simp [PyData.depthAll, PyData.depth, depth_bools bs]
theorem count_bools (b : Bool) : ∀ bs : List Bool, ((bs.map PyData.bool).countP fun y => PyData.eqv y (.bool b)) = bs.count b
  | [] => rfl
  | c :: bs => by
    rw [List.map_cons, List.countP_cons, List.count_cons, count_bools b bs]
    cases b <;> cases c <;> simp [PyData.eqv]
theorem dp_bools {K : PySem.W.Frag} {H : Hp} : ∀ bs : List Bool, DpAll K H (bs.map V.bl) (bs.map PyData.bool)
  | [] => .nil
  | b :: bs => .cons (.bl b) (dp_bools bs)
theorem mt_countB {X : Cx} (hu : X.A.units + 65 < cLine) : MtR X "list.count" (rCountB X.K) := by
  intro pins s σ H x xs v us Q I rx rxs h
  obtain ⟨a, b, bs, rfl, rfl, hs, hl, q⟩ := h
  cases rx
  cases rxs with
  | cons ry rt =>
    rename_i uy ut
    cases rt
    obtain ⟨its, rv, pl, hlen⟩ := I.list hs
    obtain ⟨as, h4⟩ := Dp.readsAll I (bs.map PyData.bool) _ its (dp_bools bs) rv
    obtain ⟨cs, r1⟩ := Dp.reads I (.bool b) (.bl b) uy (.bl b) ry
    refine SeqAt.count_list_data (vs := its.toArray) pl.isList (by simpa using h4) r1 (plain_bools bs) (by simp [PyData.plain]) (by rw [depth_bools]; omega) ?_
    rw [count_bools]
    exact ⟨.int _, H, I.tok _, ⟨_, rfl⟩, q⟩
def dCountB : D → D → Option R := fun x y => match x, y with
  | .list ds, .bool b => (match boolsOf ds with
    | some bs => if bs.length ≤ 1000 then some (.val (.int (bs.count b : Nat))) else none
    | none => none)
  | _, _ => none
def findB (b : Bool) : List Bool → Nat → Option Nat
  | [], _ => none
  | c :: cs, n => if c = b then some n else findB b cs (n + 1)
def dIndexB : D → D → Option R := fun x y => match x, y with
  | .list ds, .bool b => (match boolsOf ds with
    | some bs => (match findB b bs 0 with
      | some n => some (.val (.int (n : Nat)))
      | none => none)
    | none => none)
  | _, _ => none
/-- l.m(e), l a list -/
def metL (dm : D → D → Option R) (fo fe : M R) : M R := fo.bnd fun ro => (hold ro).bnd fun ro Γ => match rdD Γ ro with
  | some (.list _) => (fe.bnd fun re => op2 dm ro re) Γ
  | _ => .bad
theorem metL_ok {k : Kx} {E : L2.St → XK} {K : PySem.W.Frag} {dm : D → D → Option R} {r : V → List V → Hp → VK → Prop} {fo fe : M R} (hs : OpS k (fun x y H Q => r x [y] H Q) dm) : ∀ σ H Q, tE k (metL dm fo fe) E σ H Q → tBM K "list" r (tE k fo E) (tCons (tE k fe E) tNil) σ H Q := fun σ H Q ⟨c, Γ, F, W, so, po⟩ =>
  ⟨c, Γ, F, W, so, po.seq fun ra Γ1 x F1 W1 H1 so1 sm1 r1 po1 => by
    obtain ⟨ra', F2, W2, so2, sm2, ⟨r2, hn⟩, po2⟩ := hold_step so1 r1 po1
    split at po2
    · rename_i ds hz
      obtain ⟨p, xs, rfl, hp, dt⟩ := (so2.rd r2 hz).lst so2.sub
      refine ⟨.inl ⟨rfl, xs, SqL.of hp⟩, c, Γ1, F2, W2, so2, po2.seq fun rb Γ3 y F3 W3 H3 so3 sm3 r3 po3 => ?_⟩
      exact op2_ok (r := fun x y H Q => r x [y] H Q) hs so3 (r2.keep hn sm3) r3 po3
    · exact po2.elim⟩
theorem findB_ok {b : Bool} : ∀ {bs : List Bool} {n m : Nat}, findB b bs n = some m → ∃ j, m = n + j ∧ bs[j]? = some b ∧ ∀ i c, i < j → bs[i]? = some c → c ≠ b
  | [], n, m, h => by cases h
  | c :: cs, n, m, h => by
    unfold findB at h
    split at h
    · rename_i e
      cases h
      exact ⟨0, rfl, by simp [e], fun i _ hi => absurd hi (Nat.not_lt_zero _)⟩
    · rename_i e
      obtain ⟨j, h1, h2, h3⟩ := findB_ok h
      refine ⟨j + 1, by omega, by simpa using h2, fun i d hi hd => ?_⟩
      cases i with
      | zero => simp at hd; rw [← hd]; exact e
      | succ i => exact h3 i d (by omega) (by simpa using hd)
section
variable {X : Cx} {k : Kx} {E : L2.St → XK} {a b : Expr} {fa fb : M R} {apos pos : Pos}
theorem se_countB (hk : X.K = k.K) (hu : X.A.units + 65 < cLine) (ha : PE X a (tE k fa E)) (hb : PE X b (tE k fb E)) (hbase : attributeBase a "count" X.env (eval a X.env) = eval a X.env := by rfl)
    (hfew : ((backTo pos (starEach [b] X.env)).all (fun x => !x.1) && (backToKw pos (keywordEach [] X.env)).all (fun x => x.1.isSome)
      && decide ([b].length + ([] : List Keyword).length + (if ([] : List Keyword).isEmpty then 0 else 1) < 30)) = true := by rfl)
    (hline : (apos.endLine == pos.line) = true := by rfl) (hs : starEach [b] X.env = (false, eval b X.env) :: starEach [] X.env := by rfl) :
    PE X (.Call (.Attribute a "count" apos) [b] [] pos) (tE k (metL dCountB fa fb) E) :=
  (pe_bm PySem.F.plainAttrs_list PySem.F.slot_list_count PySem.F.type_list_count (mt_countB hu) ha (pa_cons hb pa_nil hs) hbase hfew hline hs).imp (metL_ok fun c Γ σ F W H x y da db res Q so rx ry e f => by
    unfold dCountB at e
    split at e
    · rename_i ds b
      split at e
      · rename_i bs hbs
        split at e
        · rename_i hl
          cases e
          obtain ⟨p, xs, rfl, hp, dt⟩ := rx.lst so.sub
          rw [boolsOf_ok hbs] at dt
          rw [dt.bools] at hp
          exact ⟨p, b, bs, rfl, by rw [ry.bl], SqL.of hp, hl, Fin.here so f (.int _)⟩
        · cases e
      · cases e
    · cases e)
theorem se_indexB (hk : X.K = k.K) (ha : PE X a (tE k fa E)) (hb : PE X b (tE k fb E)) (hbase : attributeBase a "index" X.env (eval a X.env) = eval a X.env := by rfl)
    (hfew : ((backTo pos (starEach [b] X.env)).all (fun x => !x.1) && (backToKw pos (keywordEach [] X.env)).all (fun x => x.1.isSome)
      && decide ([b].length + ([] : List Keyword).length + (if ([] : List Keyword).isEmpty then 0 else 1) < 30)) = true := by rfl)
    (hline : (apos.endLine == pos.line) = true := by rfl) (hs : starEach [b] X.env = (false, eval b X.env) :: starEach [] X.env := by rfl) :
    PE X (.Call (.Attribute a "index" apos) [b] [] pos) (tE k (metL dIndexB fa fb) E) :=
  (pe_bm PySem.F.plainAttrs_list PySem.F.slot_list_index PySem.F.type_list_index mt_index ha (pa_cons hb pa_nil hs) hbase hfew hline hs).imp (metL_ok fun c Γ σ F W H x y da db res Q so rx ry e f => by
    unfold dIndexB at e
    split at e
    · rename_i ds b
      split at e
      · rename_i bs hbs
        split at e
        · rename_i n hn
          cases e
          obtain ⟨p, xs, rfl, hp, dt⟩ := rx.lst so.sub
          rw [boolsOf_ok hbs] at dt
          rw [dt.bools] at hp
          obtain ⟨j, h1, h2, h3⟩ := findB_ok hn
          have hj : n = j := by omega
          subst hj
          refine ⟨p, _, .bl b, n, .bl b, rfl, by rw [ry.bl], SqL.of hp, rfl, by simp [flatV], by simp [h2], ?_, fun m z hm hz => ?_, Fin.here so f (.int _)⟩
          · cases b <;> rfl
          · rw [List.getElem?_map] at hz
            cases hc : bs[m]? with
            | none => rw [hc] at hz; cases hz
            | some c =>
              rw [hc] at hz
              cases hz
              have := h3 m c hm hc
              cases b <;> cases c <;> first | rfl | exact absurd rfl this
        · cases e
      · cases e
    · cases e)
end
/-! ### a name that holds a frozen list -/
theorem frz_ok {k : Kx} {E : L2.St → XK} {i : Nat} {f : M R} (hf : ∀ Γ r Γ1, f Γ = .ok r Γ1 → ∃ ds, r = .own (.lst ds)) : ∀ D σ H, tS k (sAsg i (sto f)) E D σ H → tS k (sAsg i f) E D σ H := fun D σ H ⟨c, Γ, F, W, so, po⟩ => by
  refine ⟨c, Γ, F, W, so, ?_⟩
  unfold sAsg sto stR at po
  unfold sAsg
  unfold M.bnd at po ⊢
  cases e : f Γ with
  | ok r Γ1 =>
    obtain ⟨ds, rfl⟩ := hf Γ r Γ1 e
    simp only [e, M.bnd, stD, M.ret] at po ⊢
    by_cases hi : i < Γ1.length
    · have e1 : asgR i (.val (.list ds)) Γ1 = .ok () (Γ1.set i (.val (.list ds))) := by simp only [asgR, if_pos hi]
      have e2 : asgR i (.own (.lst ds)) Γ1 = .ok () (Γ1.set i (.own none (.lst ds))) := by simp only [asgR, if_pos hi]
      rw [e1] at po
      rw [e2]
      intro σ' F' W' H' so' sm'
      obtain ⟨p, h1, h2, h3, xs, h4, h5⟩ := so'.sl i (.own none (.lst ds)) (by rw [List.getElem?_set_self hi])
      have fp : F' p = none := (so'.ow p _ h3).1
      obtain ⟨so2, sm2⟩ := so'.freezeS (x := .val (.list ds)) h3 h4 ⟨.ref p, h1, .lst upd_same (h5.mono (Same.upd fp))⟩
      rw [List.set_set] at so2
      exact po σ' _ _ H' so2 (sm'.trans sm2)
    · have e1 : asgR i (.val (.list ds)) Γ1 = .bad := by simp only [asgR, if_neg hi]
      rw [e1] at po
      exact po.elim
  | exc n Γ1 => simp only [e, M.bnd] at po ⊢; exact po
  | bad => simp only [e, M.bnd] at po; exact po.elim
theorem lc_own {it : M (List D)} {tg : Tg} {t : M Bool} {f : M R} {vs : List Nat} (Γ : En) (r : R) (Γ1 : En) (h : lcM it tg t f vs Γ = .ok r Γ1) : ∃ ds, r = .own (.lst ds) := by
  unfold lcM M.bnd at h
  split at h
  · rename_i ds Γ2 _
    dsimp only at h
    split at h
    · cases h; exact ⟨_, rfl⟩
    · cases h
  · cases h
  · cases h
theorem ss_frz {X : Cx} {k : Kx} {E : L2.St → XK} {st : Stmt} {i : Nat} {it : M (List D)} {tg : Tg} {t : M Bool} {f : M R} {vs : List Nat} (h : PS X st (tS k (sAsg i (lcM it tg t f vs)) E)) : PS X st (tS k (sAsg i (sto (lcM it tg t f vs))) E) := h.imp (frz_ok lc_own)
/-! ### the exceptions' classes, looked at -/
def fndB (K : PySem.W.Frag) (D : Addr) (x : Str) (v : Option Value) : Bool := decide (PySem.W.findIn K (.ref D) x = some v)
def kitB' (K : PySem.W.Frag) (D : Addr) (c : Value) (b : Bool) : Bool := decide (PySem.W.kitOne K (.ref D) c = some b)
def excB (K : PySem.W.Frag) (m : Nat) : Bool :=
  decide (PySem.W.exmOne K (.ref (CK K m)) (.ref (CK K 5)) = some true) &&
  (fndB K (CK K m) "__getattribute__" (some (.builtin "BaseException.__getattribute__")) && (fndB K (CK K m) "__getattr__" none && (decide (PySem.W.subIn K (.ref (CK K m)) (.type "BaseException") = some true) &&
  (PySem.W.hasDictIn K (CK K m) && (fndB K (CK K m) "__class__" (some (.builtin "object.__class__")) && (decide (PySem.W.specialIn K (.builtin "object.__class__") "__get__" = some (some (.builtin "getset_descriptor.__get__"))) &&
  (decide (PySem.W.takesIn K (.builtin "object.__class__") = some true) && (decide (PySem.W.mroIn K (CK K m) (.type "object") = some true) &&
  ([0, 1, 2, 3, 4].all (fun j => kitB' K (CK K m) (.ref (CK K j)) (decide (m = j))) && (kitB' K (CK K m) (.ref (CK K 5)) true && kitB' K (CK K m) (.type "ValueError") true))))))))))
def excAll (K : PySem.W.Frag) : Bool := [0, 1, 2, 3, 4].all (excB K)
theorem mem_five {m : Nat} (h : m < 5) : m ∈ [0, 1, 2, 3, 4] := by
  match m, h with
  | 0, _ => decide
  | 1, _ => decide
  | 2, _ => decide
  | 3, _ => decide
  | 4, _ => decide
theorem excAll_ok {K : PySem.W.Frag} (h : excAll K = true) (m : Nat) (hm : m < 5) : PySem.W.exmOne K (.ref (CK K m)) (.ref (CK K 5)) = some true ∧ ExcC K (CK K m) ∧
    (∀ j, j < 5 → PySem.W.kitOne K (.ref (CK K m)) (.ref (CK K j)) = some (decide (m = j))) ∧ PySem.W.kitOne K (.ref (CK K m)) (.ref (CK K 5)) = some true ∧ PySem.W.kitOne K (.ref (CK K m)) (.type "ValueError") = some true := by
  have h := List.all_eq_true.mp h m (mem_five hm)
  unfold excB at h
  obtain ⟨h1, h⟩ := He.ba h
  obtain ⟨h2, h⟩ := He.ba h
  obtain ⟨h3, h⟩ := He.ba h
  obtain ⟨h4, h⟩ := He.ba h
  obtain ⟨h5, h⟩ := He.ba h
  obtain ⟨h6, h⟩ := He.ba h
  obtain ⟨h7, h⟩ := He.ba h
  obtain ⟨h8, h⟩ := He.ba h
  obtain ⟨h9, h⟩ := He.ba h
  obtain ⟨ha, h⟩ := He.ba h
  obtain ⟨hb, hc⟩ := He.ba h
  exact ⟨of_decide_eq_true h1, ⟨of_decide_eq_true h2, of_decide_eq_true h3, of_decide_eq_true h4, h5, of_decide_eq_true h6, of_decide_eq_true h7, of_decide_eq_true h8, of_decide_eq_true h9⟩,
    fun j hj => of_decide_eq_true (List.all_eq_true.mp ha j (mem_five hj)), of_decide_eq_true hb, of_decide_eq_true hc⟩
end Rt
namespace Rt
open PySem PySem.Spec PyProof.Rows L2
def m_L_items : M Fl := sSeq (sAsg 0 (mkLst (aNil))) (sSeq (sFor (iRg rg2 (aCons (eC (.int 1)) (aLast (eC (.int 11))))) (tgN 1) (sSeq (sDrop (appM 0 (mkTup (aCons (sto (eVar 1)) (aCons (sto (eVar 1)) (aLast (sto (eC (.int 1))))))))) (sFor (iRg rg2 (aCons (bin dAdd (eVar 1) (eC (.int 1))) (aLast (eC (.int 11))))) (tgN 2) (sAsg 0 (bin dAdd (eVar 0) (lcM (iRg rg2 (aCons (eC (.int 1)) (aLast (eC (.int 10))))) (tgN 3) (tst (bin dEq (bin dMod (bin dSub (eVar 2) (eVar 1)) (eVar 3)) (eC (.int 0)))) (mkTup (aCons (sto (eVar 1)) (aCons (sto (eVar 2)) (aLast (sto (eVar 3)))))) [3])))))) (sRet (eVar 0)))
def g_L_items : En → Rs R := fnP m_L_items 4
def m_L_pick : M Fl := sRet (bin dIx (eVar 1) (callIO 2 g_L_draw (aCons (eVar 0) (aLast (sto (callD dLen (aLast (eVar 1))))))))
def g_L_pick : En → Rs R := fnP m_L_pick 0
def m_L_word : M Fl := sSeq (sIf (tst (bin dEq (bin dIx (eVar 0) (eC (.int 0))) (bin dIx (eVar 0) (eC (.int 1))))) (sRet (callD dStr (aLast (bin dIx (eVar 0) (eC (.int 0)))))) (sNx)) (sRet (bin dAdd (bin dAdd (bin dAdd (callD dStr (aLast (bin dIx (eVar 0) (eC (.int 0))))) (eC (.str "-"))) (callD dStr (aLast (bin dIx (eVar 0) (eC (.int 1)))))) (vIf (tst (bin dEq (bin dIx (eVar 0) (eC (.int 2))) (eC (.int 1)))) (eC (.str "")) (bin dAdd (eC (.str "/")) (callD dStr (aLast (bin dIx (eVar 0) (eC (.int 2)))))))))
def g_L_word : En → Rs R := fnP m_L_word 0
def m_L_set : M Fl := sSeq (sAsg 2 (mkLst (aNil))) (sSeq (sAsg 3 (sto (callIO 2 g_L_pick (aCons (eVar 0) (aLast (sto (mkLst (aCons (sto (eC (.int 2))) (aCons (sto (eC (.int 2))) (aLast (sto (eC (.int 4))))))))))))) (sSeq (sFor (iRg rg2 (aCons (eC (.int 1)) (aLast (bin dAdd (eVar 1) (eC (.int 1)))))) (tgN 4) (sIf (tst (bin dGt (callIO 2 g_L_draw (aCons (eVar 0) (aLast (sto (eVar 3))))) (eC (.int 0)))) (sDrop (appM 2 (eVar 4))) (sNx))) (sRet (vIf (tst (bin dNe (eVar 2) (mkLst (aNil)))) (eVar 2) (mkLst (aLast (sto (bin dAdd (eC (.int 1)) (callIO 2 g_L_draw (aCons (eVar 0) (aLast (sto (eVar 1)))))))))))))
def g_L_set : En → Rs R := fnP m_L_set 3
def m_L_numbers : M Fl := sRet (lcM (iRg rg2 (aCons (bin dIx (eVar 0) (eC (.int 0))) (aLast (bin dAdd (bin dIx (eVar 0) (eC (.int 1))) (eC (.int 1)))))) (tgN 1) (tst (bin dEq (bin dMod (bin dSub (eVar 1) (bin dIx (eVar 0) (eC (.int 0)))) (bin dIx (eVar 0) (eC (.int 2)))) (eC (.int 0)))) (eVar 1) [1])
def g_L_numbers : En → Rs R := fnP m_L_numbers 1
def m_L_inside : M Fl := sRet (lcM (iSq (callV 0 g_L_items aNil)) (tgN 1) (tst (bin dEq (lcM (iSq (callV 1 g_L_numbers (aLast (sto (eVar 1))))) (tgN 2) (tst (bin dNotIn (eVar 2) (eVar 0))) (eVar 2) [2]) (mkLst (aNil)))) (eVar 1) [1])
def g_L_inside : En → Rs R := fnP m_L_inside 2
def m_is_int : M Fl := sRet (vAnd (isi "int" (eVar 0)) (vAnd (vNot (isi "bool" (eVar 0))) (chn dLe dLe (eVar 1) (eVar 0) (eVar 2))))
def g_is_int : En → Rs R := fnP m_is_int 0
def m_is_set : M Fl := sSeq (sIf (mOr (mNot (tst (isi "list" (eVar 0)))) (mOr (tst (bin dEq (eVar 0) (mkLst (aNil)))) (mNot (tst (callD dAll (aLast (lcM (iSq (eVar 0)) (tgN 1) (M.ret true) (callV 3 g_is_int (aCons (sto (eVar 1)) (aCons (sto (eC (.int 1))) (aLast (sto (eC (.int 10))))))) [1]))))))) (sRet (eC (.bool false))) (sNx)) (sRet (callD dAll (aLast (lcM (iZp (eVar 0) (slc (eVar 0) (soI (eC (.int 1))) (noI))) (tgT [2, 3]) (M.ret true) (bin dLt (eVar 2) (eVar 3)) [2, 3]))))
def g_is_set : En → Rs R := fnP m_is_set 3
def m_check_set : M Fl := sIf (mNot (tst (callV 1 g_is_set (aLast (sto (eVar 0)))))) (sRaise 0) (sNx)
def g_check_set : En → Rs R := fnX m_check_set 0
def m_within_of : M Fl := sSeq (sAsg 1 (mkLst (aNil))) (sSeq (sFor (iSq (eVar 0)) (tgN 2) (sSeq (sDrop (appM 1 (mkTup (aCons (sto (eVar 2)) (aCons (sto (eVar 2)) (aLast (sto (eC (.int 1))))))))) (sFor (iSq (eVar 0)) (tgN 3) (sIf (tst (bin dGt (eVar 3) (eVar 2))) (sSeq (sAsg 4 (eVar 3)) (sWhile (tst (bin dIn (eVar 4) (eVar 0))) (sSeq (sDrop (appM 1 (mkTup (aCons (sto (eVar 2)) (aCons (sto (eVar 4)) (aLast (sto (bin dSub (eVar 3) (eVar 2))))))))) (augM 4 (bin dSub (eVar 3) (eVar 2)))) 40)) (sNx))))) (sRet (callD dSorted (aLast (eVar 1)))))
def g_within_of : En → Rs R := fnP m_within_of 4
def m_items_within : M Fl := sSeq (sDrop (callV 1 g_check_set (aLast (sto (eVar 0))))) (sRet (callV 1 g_within_of (aLast (sto (eVar 0)))))
def g_items_within : En → Rs R := fnX m_items_within 0
def m_numbers_of : M Fl := sRet (callD dLrg3 (aCons (bin dIx (eVar 0) (eC (.int 0))) (aCons (bin dAdd (bin dIx (eVar 0) (eC (.int 1))) (eC (.int 1))) (aLast (bin dIx (eVar 0) (eC (.int 2)))))))
def g_numbers_of : En → Rs R := fnP m_numbers_of 0
def m_greatest_of : M Fl := sSeq (sAsg 1 (sto (callV 1 g_within_of (aLast (sto (eVar 0)))))) (sSeq (sAsg 2 (mkLst (aNil))) (sSeq (sFor (iSq (eVar 1)) (tgN 3) (sSeq (sAsg 4 (sto (callV 1 g_numbers_of (aLast (sto (eVar 3)))))) (sSeq (sAsg 5 (sto (lcM (iSq (eVar 1)) (tgN 6) (mAnd (tst (bin dNe (eVar 6) (eVar 3))) (tst (callD dAll (aLast (lcM (iSq (eVar 4)) (tgN 7) (M.ret true) (bin dIn (eVar 7) (callV 1 g_numbers_of (aLast (sto (eVar 6))))) [7]))))) (eVar 6) [6]))) (sIf (tst (bin dEq (eVar 5) (mkLst (aNil)))) (sDrop (appM 2 (eVar 3))) (sNx))))) (sRet (eVar 2))))
def g_greatest_of : En → Rs R := fnP m_greatest_of 7
def m_greatest_items : M Fl := sSeq (sDrop (callV 1 g_check_set (aLast (sto (eVar 0))))) (sRet (callV 1 g_greatest_of (aLast (sto (eVar 0)))))
def g_greatest_items : En → Rs R := fnX m_greatest_items 0
def m_is_item : M Fl := sSeq (sIf (mOr (mNot (tst (isi "tuple" (eVar 0)))) (mOr (tst (bin dNe (callD dLen (aLast (eVar 0))) (eC (.int 3)))) (mNot (tst (callD dAll (aLast (lcM (iSq (eVar 0)) (tgN 4) (M.ret true) (callV 3 g_is_int (aCons (sto (eVar 4)) (aCons (sto (eC (.int 1))) (aLast (sto (eC (.int 10))))))) [4]))))))) (sRet (eC (.bool false))) (sNx)) (sSeq (sUnp (tgT [1, 2, 3]) (eVar 0)) (sSeq (sIf (tst (bin dEq (eVar 1) (eVar 2))) (sRet (bin dEq (eVar 3) (eC (.int 1)))) (sNx)) (sRet (vAnd (bin dLt (eVar 1) (eVar 2)) (bin dEq (bin dMod (bin dSub (eVar 2) (eVar 1)) (eVar 3)) (eC (.int 0)))))))
def g_is_item : En → Rs R := fnP m_is_item 4
def m_check_item : M Fl := sIf (mNot (tst (callV 1 g_is_item (aLast (sto (eVar 0)))))) (sRaise 1) (sNx)
def g_check_item : En → Rs R := fnX m_check_item 0
def m_item_numbers : M Fl := sSeq (sDrop (callV 1 g_check_item (aLast (sto (eVar 0))))) (sRet (callV 1 g_numbers_of (aLast (sto (eVar 0)))))
def g_item_numbers : En → Rs R := fnX m_item_numbers 0
def m_text_of : M Fl := sSeq (sUnp (tgT [1, 2, 3]) (eVar 0)) (sSeq (sIf (tst (bin dEq (eVar 1) (eVar 2))) (sRet (callD dStr (aLast (eVar 1)))) (sNx)) (sRet (vIf (tst (bin dEq (eVar 3) (eC (.int 1)))) (jnM [fmtR (eVar 1), eC (.str "-"), fmtR (eVar 2)] Str.empty) (jnM [fmtR (eVar 1), eC (.str "-"), fmtR (eVar 2), eC (.str "/"), fmtR (eVar 3)] Str.empty))))
def g_text_of : En → Rs R := fnP m_text_of 3
def m_item_text : M Fl := sSeq (sDrop (callV 1 g_check_item (aLast (sto (eVar 0))))) (sRet (callV 1 g_text_of (aLast (sto (eVar 0)))))
def g_item_text : En → Rs R := fnX m_item_text 0
def m_number_in : M Fl := sSeq (sIf (mOr (mNot (tst (chn dLe dLe (eC (.int 1)) (callD dLen (aLast (eVar 0))) (eC (.int 2))))) (mOr (mNot (tst (callD dAll (aLast (lcM (iSq (eVar 0)) (tgN 1) (M.ret true) (bin dIn (eVar 1) (eC (.str "0123456789"))) [1]))))) (tst (bin dNe (callD dStr (aLast (callD dInt (aLast (eVar 0))))) (eVar 0))))) (sRet (eC (.int 0))) (sNx)) (sRet (vIf (tst (bin dLe (callD dInt (aLast (eVar 0))) (eC (.int 10)))) (callD dInt (aLast (eVar 0))) (eC (.int 0))))
def g_number_in : En → Rs R := fnP m_number_in 1
def m_item_in : M Fl := sSeq (sUnp (tgT [1, 2, 3]) (met1 dPart (eVar 0) (eC (.str "/")))) (sSeq (sUnp (tgT [4, 5, 6]) (met1 dPart (eVar 1) (eC (.str "-")))) (sSeq (sIf (mAnd (tst (bin dNe (eVar 2) (eC (.str "")))) (mOr (tst (bin dEq (eVar 5) (eC (.str "")))) (tst (bin dLt (callV 1 g_number_in (aLast (sto (eVar 3)))) (eC (.int 2)))))) (sRet (eC .none)) (sNx)) (sSeq (sAsg 7 (sto (vIf (tst (bin dNe (eVar 2) (eC (.str "")))) (callV 1 g_number_in (aLast (sto (eVar 3)))) (eC (.int 1))))) (sSeq (sAsg 8 (sto (mkTup (aCons (sto (callV 1 g_number_in (aLast (sto (eVar 4))))) (aCons (sto (callV 1 g_number_in (aLast (sto (vIf (tst (bin dNe (eVar 5) (eC (.str "")))) (eVar 6) (eVar 4)))))) (aLast (sto (eVar 7)))))))) (sSeq (sIf (mOr (mNot (tst (callV 1 g_is_item (aLast (sto (eVar 8)))))) (tst (bin dNe (callV 1 g_text_of (aLast (sto (eVar 8)))) (eVar 0)))) (sRet (eC .none)) (sNx)) (sRet (eVar 8)))))))
def g_item_in : En → Rs R := fnP m_item_in 8
def m_parse_item : M Fl := sSeq (sAsg 1 (sto (vIf (tst (isi "str" (eVar 0))) (callV 1 g_item_in (aLast (sto (eVar 0)))) (eC .none)))) (sSeq (sIf (tst (bin dIs (eVar 1) (eC .none))) (sRaise 1) (sNx)) (sRet (eVar 1)))
def g_parse_item : En → Rs R := fnX m_parse_item 1
def m_L_error : M Fl := sSeq (sAsg 1 (sto (mkLst (aCons (sto (isX 0 (fun m => decide (m = 0)))) (aCons (sto (isX 0 (fun m => decide (m = 1)))) (aLast (sto (isX 0 (fun m => decide (m = 2)))))))))) (sSeq (sAsg 1 (sto (bin dAdd (eVar 1) (mkLst (aCons (sto (isX 0 (fun m => decide (m = 3)))) (aLast (sto (isX 0 (fun m => decide (m = 4)))))))))) (sSeq (sIf (mOr (tst (bin dNe (metL dCountB (eVar 1) (eC (.bool true))) (eC (.int 1)))) (mOr (mNot (tst (isX 0 (fun _ => true)))) (mNot (tst (isX 0 (fun _ => true)))))) (sRet (eC (.str "odd"))) (sNx)) (sRet (bin dIx (mkLst (aCons (sto (eC (.str "set"))) (aCons (sto (eC (.str "item"))) (aCons (sto (eC (.str "number"))) (aCons (sto (eC (.str "text"))) (aLast (sto (eC (.str "none"))))))))) (metL dIndexB (eVar 1) (eC (.bool true)))))))
def g_L_error : En → Rs R := fnP m_L_error 1
def m_L_read : M Fl := sSeq (sAsg 1 (eC .none)) (sSeq (sAsg 2 (eC .none)) (sSeq (sTry (sAsg 1 (sto (callV 1 g_parse_item (aLast (sto (eVar 0)))))) 3 2) (sRet (vIf (nonM 2) (eVar 1) (callIO 1 g_L_error (aLast (eVar 2)))))))
def g_L_read : En → Rs R := fnP m_L_read 3
def m_L_text : M Fl := sSeq (sAsg 2 (sto (callV 0 g_L_items aNil))) (sRet (lcM (iRg rg1 (aLast (bin dAdd (eC (.int 1)) (callIO 2 g_L_draw (aCons (eVar 0) (aLast (sto (eVar 1)))))))) (tgN 3) (M.ret true) (callIO 2 g_L_pick (aCons (eVar 0) (aLast (sto (eVar 2))))) [3]))
def g_L_text : En → Rs R := fnP m_L_text 2
def m_L_meant : M Fl := sSeq (sAsg 1 (sto (mkLst (aNil)))) (sSeq (sFor (iSq (eVar 0)) (tgN 2) (sAsg 1 (sto (bin dAdd (eVar 1) (callV 1 g_L_numbers (aLast (sto (eVar 2)))))))) (sRet (sSet (eVar 1))))
def g_L_meant : En → Rs R := fnP m_L_meant 2
def m_items_in : M Fl := sSeq (sIf (mNot (tst (isi "str" (eVar 0)))) (sRet (eC .none)) (sNx)) (sSeq (sAsg 1 (sto (lcM (iSq (met1 dSplit (eVar 0) (eC (.str ",")))) (tgN 2) (M.ret true) (callV 1 g_item_in (aLast (sto (eVar 2)))) [2]))) (sRet (vIf (tst (bin dNotIn (eC .none) (eVar 1))) (eVar 1) (eC .none))))
def g_items_in : En → Rs R := fnP m_items_in 2
def m_check_text : M Fl := sIf (tst (bin dIs (callV 1 g_items_in (aLast (sto (eVar 0)))) (eC .none))) (sRaise 3) (sNx)
def g_check_text : En → Rs R := fnX m_check_text 0
def m_set_of : M Fl := sSeq (sAsg 1 (mkLst (aNil))) (sSeq (sFor (iSq (eVar 0)) (tgN 2) (augM 1 (callV 1 g_numbers_of (aLast (sto (eVar 2)))))) (sRet (sSet (eVar 1))))
def g_set_of : En → Rs R := fnP m_set_of 2
def m_covered_times : M Fl := sSeq (sDrop (callV 1 g_check_text (aLast (sto (eVar 0))))) (sSeq (sAsg 1 (sto (callV 1 g_items_in (aLast (sto (eVar 0)))))) (sRet (lcM (iSq (callV 1 g_set_of (aLast (sto (eVar 1))))) (tgN 2) (M.ret true) (mkTup (aCons (sto (eVar 2)) (aLast (sto (callD dLen (aLast (lcM (iSq (eVar 1)) (tgN 3) (tst (bin dIn (eVar 2) (callV 1 g_numbers_of (aLast (sto (eVar 3)))))) (eVar 3) [3]))))))) [2])))
def g_covered_times : En → Rs R := fnX m_covered_times 3
def m_needless : M Fl := sSeq (sDrop (callV 1 g_check_text (aLast (sto (eVar 0))))) (sSeq (sAsg 1 (sto (callV 1 g_items_in (aLast (sto (eVar 0)))))) (sSeq (sAsg 2 (mkLst (aNil))) (sSeq (sFor (iEn (eVar 1)) (tgT [3, 4]) (sSeq (sAsg 5 (sto (bin dAdd (slc (eVar 1) (noI) (soI (eVar 3))) (slc (eVar 1) (soI (bin dAdd (eVar 3) (eC (.int 1)))) (noI))))) (sIf (mAnd (tst (bin dNe (eVar 5) (mkLst (aNil)))) (tst (bin dEq (callV 1 g_set_of (aLast (sto (eVar 5)))) (callV 1 g_set_of (aLast (sto (eVar 1))))))) (sDrop (appM 2 (eVar 3))) (sNx)))) (sRet (eVar 2)))))
def g_needless : En → Rs R := fnX m_needless 5
def m_is_text : M Fl := sRet (bin dIsNot (callV 1 g_items_in (aLast (sto (eVar 0)))) (eC .none))
def g_is_text : En → Rs R := fnP m_is_text 0
def m_parse : M Fl := sSeq (sDrop (callV 1 g_check_text (aLast (sto (eVar 0))))) (sRet (callV 1 g_set_of (aLast (sto (callV 1 g_items_in (aLast (sto (eVar 0))))))))
def g_parse : En → Rs R := fnX m_parse 0
def m_items : M Fl := sSeq (sDrop (callV 1 g_check_text (aLast (sto (eVar 0))))) (sRet (callV 1 g_items_in (aLast (sto (eVar 0)))))
def g_items : En → Rs R := fnX m_items 0
def m_first_fault : M Fl := sSeq (sIf (mNot (tst (isi "str" (eVar 0)))) (sRaise 3) (sNx)) (sSeq (sFor (iEn (met1 dSplit (eVar 0) (eC (.str ",")))) (tgT [1, 2]) (sIf (tst (bin dIs (callV 1 g_item_in (aLast (sto (eVar 2)))) (eC .none))) (sRet (eVar 1)) (sNx))) (sRet (eC .none)))
def g_first_fault : En → Rs R := fnX m_first_fault 2
def m_L_true : M Fl := sRet (vAnd (isi "bool" (eVar 0)) (bin dEq (eVar 0) (eVar 1)))
def g_L_true : En → Rs R := fnP m_L_true 0
def m_mean_same : M Fl := sSeq (sDrop (callV 1 g_check_text (aLast (sto (eVar 0))))) (sSeq (sDrop (callV 1 g_check_text (aLast (sto (eVar 1))))) (sRet (bin dEq (callV 1 g_set_of (aLast (sto (callV 1 g_items_in (aLast (sto (eVar 0))))))) (callV 1 g_set_of (aLast (sto (callV 1 g_items_in (aLast (sto (eVar 1))))))))))
def g_mean_same : En → Rs R := fnX m_mean_same 0
def m_L_runs : M Fl := sSeq (sAsg 1 (sto (lcM (iSq (eVar 0)) (tgN 3) (tst (bin dNotIn (bin dSub (eVar 3) (eC (.int 1))) (eVar 0))) (eVar 3) [3]))) (sSeq (sAsg 2 (sto (lcM (iSq (eVar 0)) (tgN 3) (tst (bin dNotIn (bin dAdd (eVar 3) (eC (.int 1))) (eVar 0))) (eVar 3) [3]))) (sRet (lcM (iZp (eVar 1) (eVar 2)) (tgT [4, 5]) (M.ret true) (mkTup (aCons (sto (eVar 4)) (aCons (sto (eVar 5)) (aLast (sto (eC (.int 1))))))) [4, 5])))
def g_L_runs : En → Rs R := fnP m_L_runs 5
def m_runs_of : M Fl := sSeq (sAsg 1 (mkLst (aNil))) (sSeq (sFor (iSq (eVar 0)) (tgN 2) (sIf (mAnd (tst (bin dNe (eVar 1) (mkLst (aNil)))) (tst (bin dEq (bin dIx (bin dIx (eVar 1) (M.bnd (eC (.int 1)) fun r => un1 dNeg r)) (eC (.int 1))) (bin dSub (eVar 2) (eC (.int 1)))))) (setM 1 (M.bnd (eC (.int 1)) fun r => un1 dNeg r) (mkTup (aCons (sto (bin dIx (bin dIx (eVar 1) (M.bnd (eC (.int 1)) fun r => un1 dNeg r)) (eC (.int 0)))) (aCons (sto (eVar 2)) (aLast (sto (eC (.int 1)))))))) (sDrop (appM 1 (mkTup (aCons (sto (eVar 2)) (aCons (sto (eVar 2)) (aLast (sto (eC (.int 1))))))))))) (sRet (eVar 1)))
def g_runs_of : En → Rs R := fnP m_runs_of 2
def m_plain_of : M Fl := sRet (met1 dJoin (eC (.str ",")) (lcM (iSq (callV 1 g_runs_of (aLast (sto (eVar 0))))) (tgN 1) (M.ret true) (callV 1 g_text_of (aLast (sto (eVar 1)))) [1]))
def g_plain_of : En → Rs R := fnP m_plain_of 1
def m_join_texts : M Fl := sSeq (sDrop (callV 1 g_check_text (aLast (sto (eVar 0))))) (sSeq (sDrop (callV 1 g_check_text (aLast (sto (eVar 1))))) (sRet (callV 1 g_plain_of (aLast (sto (callV 1 g_set_of (aLast (sto (bin dAdd (callV 1 g_items_in (aLast (sto (eVar 0)))) (callV 1 g_items_in (aLast (sto (eVar 1)))))))))))))
def g_join_texts : En → Rs R := fnX m_join_texts 0
def m_runs : M Fl := sSeq (sDrop (callV 1 g_check_set (aLast (sto (eVar 0))))) (sRet (callV 1 g_runs_of (aLast (sto (eVar 0)))))
def g_runs : En → Rs R := fnX m_runs 0
def m_plain : M Fl := sSeq (sDrop (callV 1 g_check_set (aLast (sto (eVar 0))))) (sRet (callV 1 g_plain_of (aLast (sto (eVar 0)))))
def g_plain : En → Rs R := fnX m_plain 0
def m_is_plain : M Fl := sSeq (sDrop (callV 1 g_check_text (aLast (sto (eVar 0))))) (sRet (bin dEq (callV 1 g_plain_of (aLast (sto (callV 1 g_set_of (aLast (sto (callV 1 g_items_in (aLast (sto (eVar 0)))))))))) (eVar 0)))
def g_is_plain : En → Rs R := fnX m_is_plain 0
def m_gaps : M Fl := sSeq (sDrop (callV 1 g_check_set (aLast (sto (eVar 0))))) (sRet (callV 1 g_runs_of (aLast (sto (lcM (iRg rg2 (aCons (bin dIx (eVar 0) (eC (.int 0))) (aLast (bin dAdd (bin dIx (eVar 0) (M.bnd (eC (.int 1)) fun r => un1 dNeg r)) (eC (.int 1)))))) (tgN 1) (tst (bin dNotIn (eVar 1) (eVar 0))) (eVar 1) [1])))))
def g_gaps : En → Rs R := fnX m_gaps 1
def m_tidy : M Fl := sSeq (sDrop (callV 1 g_check_text (aLast (sto (eVar 0))))) (sRet (callV 1 g_plain_of (aLast (sto (callV 1 g_set_of (aLast (sto (callV 1 g_items_in (aLast (sto (eVar 0)))))))))))
def g_tidy : En → Rs R := fnX m_tidy 0
def m_L_least (g : En → Rs R) : M Fl := sSeq (sIf (tst (bin dEq (eVar 0) (mkTup (aNil)))) (sRet (eC (.int 0))) (sNx)) (sSeq (sIf (tst (ninM (eVar 0) 2)) (sSeq (sAsg 3 (eC (.int 99))) (sSeq (sFor (iSq (eVar 1)) (tgT [4, 5]) (sIf (tst (bin dIn (bin dIx (eVar 0) (M.bnd (eC (.int 1)) fun r => un1 dNeg r)) (eVar 4))) (sSeq (sAsg 6 (sto (callD dTuple (aLast (lcM (iSq (eVar 0)) (tgN 7) (tst (bin dNotIn (eVar 7) (eVar 4))) (eVar 7) [7]))))) (sIf (tst (bin dLt (eVar 5) (eVar 3))) (sAsg 3 (sto (callD dMin2 (aCons (eVar 3) (aLast (bin dAdd (eVar 5) (callIO 3 g (aCons (sto (eVar 6)) (aCons (sto (eVar 1)) (aLast (eVar 2))))))))))) (sNx))) (sNx))) (dputM 2 (eVar 0) (eVar 3)))) (sNx)) (sRet (dgetM 2 (eVar 0))))
def g_L_least : Nat → En → Rs R
  | 0 => fun _ => .bad
  | n + 1 => fnP (m_L_least (g_L_least n)) 5
def m_L_best (g : En → Rs R) : M Fl := sSeq (sIf (tst (bin dEq (eVar 0) (mkLst (aNil)))) (sRet (mkLst (aLast (sto (mkTup (aNil)))))) (sNx)) (sSeq (sAsg 3 (sto (mkLst (aNil)))) (sSeq (sFor (iSq (eVar 1)) (tgN 4) (sSeq (sAsg 5 (sto (callV 1 g_L_numbers (aLast (sto (eVar 4)))))) (sSeq (sAsg 6 (sto (bin dAdd (callD dLen (aLast (callV 1 g_L_word (aLast (sto (eVar 4)))))) (eC (.int 1))))) (sIf (mAnd (tst (bin dIn (bin dIx (eVar 0) (eC (.int 0))) (eVar 5))) (tst (bin dLe (eVar 6) (eVar 2)))) (sSeq (sAsg 7 (sto (lcM (iSq (eVar 0)) (tgN 9) (tst (bin dNotIn (eVar 9) (eVar 5))) (eVar 9) [9]))) (sFor (iSq (callV 3 g (aCons (sto (eVar 7)) (aCons (sto (eVar 1)) (aLast (sto (bin dSub (eVar 2) (eVar 6)))))))) (tgN 8) (sAsg 3 (sto (bin dAdd (eVar 3) (mkLst (aLast (sto (callD dTuple (aLast (callD dSorted (aLast (bin dAdd (mkTup (aLast (sto (eVar 4)))) (eVar 8)))))))))))))) (sNx))))) (sRet (sSet (eVar 3)))))
def g_L_best : Nat → En → Rs R
  | 0 => fun _ => .bad
  | n + 1 => fnP (m_L_best (g_L_best n)) 7
def m_least_from (g : En → Rs R) : M Fl := sSeq (sIf (tst (bin dEq (eVar 0) (mkTup (aNil)))) (sRet (eC (.int 0))) (sNx)) (sSeq (sIf (tst (ninM (eVar 0) 2)) (sSeq (sAsg 3 (eC .none)) (sSeq (sFor (iSq (eVar 1)) (tgT [4, 5, 6]) (sIf (tst (bin dIn (bin dIx (eVar 0) (eC (.int 0))) (eVar 5))) (sSeq (sAsg 7 (sto (callD dTuple (aLast (lcM (iSq (eVar 0)) (tgN 9) (tst (bin dNotIn (eVar 9) (eVar 5))) (eVar 9) [9]))))) (sSeq (sAsg 8 (sto (bin dAdd (eVar 6) (callIO 3 g (aCons (sto (eVar 7)) (aCons (sto (eVar 1)) (aLast (eVar 2)))))))) (sAsg 3 (sto (vIf (mOr (tst (bin dIs (eVar 3) (eC .none))) (tst (bin dLt (eVar 8) (eVar 3)))) (eVar 8) (eVar 3)))))) (sNx))) (dputM 2 (eVar 0) (eVar 3)))) (sNx)) (sRet (dgetM 2 (eVar 0))))
def g_least_from : Nat → En → Rs R
  | 0 => fun _ => .bad
  | n + 1 => fnP (m_least_from (g_least_from n)) 7
def m_weighed : M Fl := sRet (lcM (iSq (callV 1 g_within_of (aLast (sto (eVar 0))))) (tgN 1) (M.ret true) (mkTup (aCons (sto (eVar 1)) (aCons (sto (callD dTuple (aLast (callV 1 g_numbers_of (aLast (sto (eVar 1))))))) (aLast (sto (bin dAdd (callD dLen (aLast (callV 1 g_text_of (aLast (sto (eVar 1)))))) (eC (.int 1)))))))) [1])
def g_weighed : En → Rs R := fnP m_weighed 1
def m_length_of : M Fl := sRet (bin dSub (callIO 3 (g_least_from 12) (aCons (sto (callD dTuple (aLast (eVar 0)))) (aCons (sto (callV 1 g_weighed (aLast (sto (eVar 0))))) (aLast (newT))))) (eC (.int 1)))
def g_length_of : En → Rs R := fnP m_length_of 0
def m_shortest_length : M Fl := sSeq (sDrop (callV 1 g_check_set (aLast (sto (eVar 0))))) (sRet (callV 1 g_length_of (aLast (sto (eVar 0)))))
def g_shortest_length : En → Rs R := fnX m_shortest_length 0
def m_covers_from (g : En → Rs R) : M Fl := sSeq (sIf (tst (bin dEq (eVar 0) (mkTup (aNil)))) (sRet (mkLst (aLast (sto (mkTup (aNil)))))) (sNx)) (sSeq (sAsg 3 (mkLst (aNil))) (sSeq (sFor (iSq (eVar 1)) (tgT [4, 5, 6]) (sIf (tst (bin dIn (bin dIx (eVar 0) (eC (.int 0))) (eVar 5))) (sSeq (sAsg 7 (sto (callD dTuple (aLast (lcM (iSq (eVar 0)) (tgN 8) (tst (bin dNotIn (eVar 8) (eVar 5))) (eVar 8) [8]))))) (sIf (tst (bin dEq (bin dAdd (eVar 6) (callIO 3 (g_least_from 12) (aCons (sto (eVar 7)) (aCons (sto (eVar 1)) (aLast (eVar 2)))))) (callIO 3 (g_least_from 12) (aCons (sto (eVar 0)) (aCons (sto (eVar 1)) (aLast (eVar 2))))))) (augM 3 (lcM (iSq (callIO 3 g (aCons (sto (eVar 7)) (aCons (sto (eVar 1)) (aLast (eVar 2)))))) (tgN 9) (M.ret true) (callD dTuple (aLast (callD dSorted (aLast (bin dAdd (mkTup (aLast (sto (eVar 4)))) (eVar 9)))))) [9])) (sNx))) (sNx))) (sRet (sSet (eVar 3)))))
def g_covers_from : Nat → En → Rs R
  | 0 => fun _ => .bad
  | n + 1 => fnP (m_covers_from (g_covers_from n)) 7
def m_covers_of : M Fl := sRet (callIO 3 (g_covers_from 12) (aCons (sto (callD dTuple (aLast (eVar 0)))) (aCons (sto (callV 1 g_weighed (aLast (sto (eVar 0))))) (aLast (newT)))))
def g_covers_of : En → Rs R := fnP m_covers_of 0
def m_shortest_covers : M Fl := sSeq (sDrop (callV 1 g_check_set (aLast (sto (eVar 0))))) (sRet (lcM (iSq (callV 1 g_covers_of (aLast (sto (eVar 0))))) (tgN 1) (M.ret true) (callD dList (aLast (eVar 1))) [1]))
def g_shortest_covers : En → Rs R := fnX m_shortest_covers 1
def m_count_shortest : M Fl := sSeq (sDrop (callV 1 g_check_set (aLast (sto (eVar 0))))) (sSeq (sAsg 1 (eC (.int 0))) (sSeq (sFor (iSq (callV 1 g_covers_of (aLast (sto (eVar 0))))) (tgN 2) (sSeq (sAsg 3 (eC (.int 1))) (sSeq (sFor (iRg rg1 (aLast (callD dLen (aLast (eVar 2))))) (tgN 4) (augMul 3 (bin dAdd (eVar 4) (eC (.int 1))))) (augM 1 (eVar 3))))) (sRet (eVar 1))))
def g_count_shortest : En → Rs R := fnX m_count_shortest 4
def m_first_shortest : M Fl := sSeq (sDrop (callV 1 g_check_set (aLast (sto (eVar 0))))) (sRet (met1 dJoin (eC (.str ",")) (lcM (iSq (bin dIx (callV 1 g_covers_of (aLast (sto (eVar 0)))) (eC (.int 0)))) (tgN 1) (M.ret true) (callV 1 g_text_of (aLast (sto (eVar 1)))) [1])))
def g_first_shortest : En → Rs R := fnX m_first_shortest 1
def m_spare_signs : M Fl := sSeq (sDrop (callV 1 g_check_set (aLast (sto (eVar 0))))) (sRet (bin dSub (callD dLen (aLast (callV 1 g_plain_of (aLast (sto (eVar 0)))))) (callV 1 g_length_of (aLast (sto (eVar 0))))))
def g_spare_signs : En → Rs R := fnX m_spare_signs 0
def m_is_shortest : M Fl := sSeq (sDrop (callV 1 g_check_text (aLast (sto (eVar 0))))) (sRet (bin dEq (callD dLen (aLast (eVar 0))) (callV 1 g_length_of (aLast (sto (callV 1 g_set_of (aLast (sto (callV 1 g_items_in (aLast (sto (eVar 0))))))))))))
def g_is_shortest : En → Rs R := fnX m_is_shortest 0
def m_shorter_by : M Fl := sSeq (sDrop (callV 1 g_check_text (aLast (sto (eVar 0))))) (sRet (bin dSub (callD dLen (aLast (eVar 0))) (callV 1 g_length_of (aLast (sto (callV 1 g_set_of (aLast (sto (callV 1 g_items_in (aLast (sto (eVar 0))))))))))))
def g_shorter_by : En → Rs R := fnX m_shorter_by 0
def m_fewest_from (g : En → Rs R) : M Fl := sSeq (sIf (tst (bin dEq (eVar 0) (mkTup (aNil)))) (sRet (eC (.int 0))) (sNx)) (sSeq (sIf (tst (ninM (eVar 0) 2)) (sSeq (sAsg 3 (eC .none)) (sSeq (sFor (iSq (eVar 1)) (tgN 4) (sIf (tst (bin dIn (bin dIx (eVar 0) (eC (.int 0))) (eVar 4))) (sSeq (sAsg 5 (sto (bin dAdd (eC (.int 1)) (callIO 3 g (aCons (sto (callD dTuple (aLast (lcM (iSq (eVar 0)) (tgN 6) (tst (bin dNotIn (eVar 6) (eVar 4))) (eVar 6) [6])))) (aCons (sto (eVar 1)) (aLast (eVar 2)))))))) (sAsg 3 (sto (vIf (mOr (tst (bin dIs (eVar 3) (eC .none))) (tst (bin dLt (eVar 5) (eVar 3)))) (eVar 5) (eVar 3))))) (sNx))) (dputM 2 (eVar 0) (eVar 3)))) (sNx)) (sRet (dgetM 2 (eVar 0))))
def g_fewest_from : Nat → En → Rs R
  | 0 => fun _ => .bad
  | n + 1 => fnP (m_fewest_from (g_fewest_from n)) 4
def m_fewest_items : M Fl := sSeq (sDrop (callV 1 g_check_set (aLast (sto (eVar 0))))) (sRet (callIO 3 (g_fewest_from 12) (aCons (sto (callD dTuple (aLast (eVar 0)))) (aCons (sto (lcM (iSq (callV 1 g_greatest_of (aLast (sto (eVar 0))))) (tgN 1) (M.ret true) (callV 1 g_numbers_of (aLast (sto (eVar 1)))) [1])) (aLast (newT))))))
def g_fewest_items : En → Rs R := fnX m_fewest_items 1
def m_L_can (g : En → Rs R) : M Fl := sSeq (sIf (tst (bin dEq (eVar 0) (mkLst (aNil)))) (sRet (eC (.bool true))) (sNx)) (sSeq (sIf (tst (bin dEq (eVar 2) (eC (.int 0)))) (sRet (eC (.bool false))) (sNx)) (sSeq (sFor (iSq (eVar 1)) (tgN 3) (sSeq (sAsg 4 (sto (callV 1 g_L_numbers (aLast (sto (eVar 3)))))) (sSeq (sAsg 5 (sto (lcM (iSq (eVar 0)) (tgN 6) (tst (bin dNotIn (eVar 6) (eVar 4))) (eVar 6) [6]))) (sIf (mAnd (tst (bin dIn (bin dIx (eVar 0) (eC (.int 0))) (eVar 4))) (tst (callV 3 g (aCons (sto (eVar 5)) (aCons (sto (eVar 1)) (aLast (sto (bin dSub (eVar 2) (eC (.int 1)))))))))) (sRet (eC (.bool true))) (sNx))))) (sRet (eC (.bool false)))))
def g_L_can : Nat → En → Rs R
  | 0 => fun _ => .bad
  | n + 1 => fnP (m_L_can (g_L_can n)) 4
def m_longest_with : M Fl := sSeq (sDrop (callV 1 g_check_set (aLast (sto (eVar 0))))) (sSeq (sIf (mNot (tst (callV 3 g_is_int (aCons (sto (eVar 1)) (aCons (sto (eC (.int 1))) (aLast (sto (eC (.int 10))))))))) (sRaise 2) (sNx)) (sSeq (sIf (tst (bin dNotIn (eVar 1) (eVar 0))) (sRaise 4) (sNx)) (sSeq (sAsg 2 (eC (.int 1))) (sSeq (sFor (iSq (eVar 0)) (tgN 3) (sFor (iRg rg2 (aCons (eC (.int 1)) (aLast (eC (.int 10))))) (tgN 4) (sSeq (sAsg 5 (eVar 3)) (sSeq (sWhile (tst (bin dIn (bin dAdd (eVar 5) (eVar 4)) (eVar 0))) (augM 5 (eVar 4)) 40) (sSeq (sAsg 6 (sto (vIf (tst (bin dGt (eVar 5) (eVar 3))) (callV 1 g_numbers_of (aLast (sto (mkTup (aCons (sto (eVar 3)) (aCons (sto (eVar 5)) (aLast (sto (eVar 4))))))))) (mkLst (aLast (sto (eVar 3))))))) (sAsg 2 (sto (vIf (tst (bin dIn (eVar 1) (eVar 6))) (callD dMax2 (aCons (eVar 2) (aLast (callD dLen (aLast (eVar 6)))))) (eVar 2))))))))) (sRet (eVar 2))))))
def g_longest_with : En → Rs R := fnX m_longest_with 5
def m_mirrored : M Fl := sSeq (sDrop (callV 1 g_check_set (aLast (sto (eVar 0))))) (sRet (lcM (iSq (revR (eVar 0))) (tgN 1) (M.ret true) (bin dSub (bin dAdd (eC (.int 10)) (eC (.int 1))) (eVar 1)) [1]))
def g_mirrored : En → Rs R := fnX m_mirrored 1
def m_common : M Fl := sSeq (sDrop (callV 1 g_check_set (aLast (sto (eVar 0))))) (sSeq (sDrop (callV 1 g_check_set (aLast (sto (eVar 1))))) (sSeq (sAsg 2 (sto (lcM (iSq (eVar 0)) (tgN 3) (tst (bin dIn (eVar 3) (eVar 1))) (eVar 3) [3]))) (sSeq (sIf (tst (bin dEq (eVar 2) (mkLst (aNil)))) (sRaise 4) (sNx)) (sRet (eVar 2)))))
def g_common : En → Rs R := fnX m_common 2
def m_less : M Fl := sSeq (sDrop (callV 1 g_check_set (aLast (sto (eVar 0))))) (sSeq (sDrop (callV 1 g_check_set (aLast (sto (eVar 1))))) (sSeq (sAsg 2 (sto (lcM (iSq (eVar 0)) (tgN 3) (tst (bin dNotIn (eVar 3) (eVar 1))) (eVar 3) [3]))) (sSeq (sIf (tst (bin dEq (eVar 2) (mkLst (aNil)))) (sRaise 4) (sNx)) (sRet (eVar 2)))))
def g_less : En → Rs R := fnX m_less 2
def m_others : M Fl := sSeq (sDrop (callV 1 g_check_set (aLast (sto (eVar 0))))) (sSeq (sAsg 1 (sto (lcM (iRg rg2 (aCons (eC (.int 1)) (aLast (bin dAdd (eC (.int 10)) (eC (.int 1)))))) (tgN 2) (tst (bin dNotIn (eVar 2) (eVar 0))) (eVar 2) [2]))) (sSeq (sIf (tst (bin dEq (eVar 1) (mkLst (aNil)))) (sRaise 4) (sNx)) (sRet (eVar 1))))
def g_others : En → Rs R := fnX m_others 2
def m_moved : M Fl := sSeq (sDrop (callV 1 g_check_set (aLast (sto (eVar 0))))) (sSeq (sIf (mNot (tst (callV 3 g_is_int (aCons (sto (eVar 1)) (aCons (sto (M.bnd (eC (.int 9)) fun r => un1 dNeg r)) (aLast (sto (eC (.int 9))))))))) (sRaise 2) (sNx)) (sSeq (sAsg 2 (sto (lcM (iSq (eVar 0)) (tgN 3) (M.ret true) (bin dAdd (eVar 3) (eVar 1)) [3]))) (sSeq (sIf (mNot (tst (callV 1 g_is_set (aLast (sto (eVar 2)))))) (sRaise 0) (sNx)) (sRet (eVar 2)))))
def g_moved : En → Rs R := fnX m_moved 2
def m_both : M Fl := sSeq (sDrop (callV 1 g_check_set (aLast (sto (eVar 0))))) (sSeq (sDrop (callV 1 g_check_set (aLast (sto (eVar 1))))) (sRet (sSet (bin dAdd (eVar 0) (eVar 1)))))
def g_both : En → Rs R := fnX m_both 0
def m_contains : M Fl := sSeq (sDrop (callV 1 g_check_set (aLast (sto (eVar 0))))) (sSeq (sDrop (callV 1 g_check_text (aLast (sto (eVar 1))))) (sRet (callD dAll (aLast (lcM (iSq (callV 1 g_set_of (aLast (sto (callV 1 g_items_in (aLast (sto (eVar 1)))))))) (tgN 2) (M.ret true) (bin dIn (eVar 2) (eVar 0)) [2])))))
def g_contains : En → Rs R := fnX m_contains 1
def m_with_number : M Fl := sSeq (sDrop (callV 1 g_check_set (aLast (sto (eVar 0))))) (sSeq (sIf (mNot (tst (callV 3 g_is_int (aCons (sto (eVar 1)) (aCons (sto (eC (.int 1))) (aLast (sto (eC (.int 10))))))))) (sRaise 2) (sNx)) (sRet (sSet (bin dAdd (eVar 0) (mkLst (aLast (sto (eVar 1))))))))
def g_with_number : En → Rs R := fnX m_with_number 0
def m_gains : M Fl := sSeq (sDrop (callV 1 g_check_set (aLast (sto (eVar 0))))) (sSeq (sAsg 1 (sto (callV 1 g_length_of (aLast (sto (eVar 0)))))) (sSeq (sAsg 2 (mkLst (aNil))) (sSeq (sFor (iRg rg2 (aCons (eC (.int 1)) (aLast (bin dAdd (eC (.int 10)) (eC (.int 1)))))) (tgN 3) (sIf (tst (bin dNotIn (eVar 3) (eVar 0))) (sDrop (appM 2 (mkTup (aCons (sto (eVar 3)) (aLast (sto (bin dSub (callV 1 g_length_of (aLast (sto (callD dSorted (aLast (bin dAdd (eVar 0) (mkLst (aLast (sto (eVar 3)))))))))) (eVar 1)))))))) (sNx))) (sRet (eVar 2)))))
def g_gains : En → Rs R := fnX m_gains 3
def m_best_number : M Fl := sSeq (sDrop (callV 1 g_check_set (aLast (sto (eVar 0))))) (sSeq (sAsg 1 (sto (callV 1 g_gains (aLast (sto (eVar 0)))))) (sSeq (sIf (tst (bin dEq (eVar 1) (mkLst (aNil)))) (sRaise 4) (sNx)) (sSeq (sAsg 2 (sto (callD dMin (aLast (lcM (iSq (eVar 1)) (tgT [3, 4]) (M.ret true) (eVar 4) [3, 4]))))) (sRet (bin dIx (lcM (iSq (eVar 1)) (tgT [3, 4]) (tst (bin dEq (eVar 4) (eVar 2))) (eVar 3) [3, 4]) (eC (.int 0)))))))
def g_best_number : En → Rs R := fnX m_best_number 4
def m_without_number : M Fl := sSeq (sDrop (callV 1 g_check_set (aLast (sto (eVar 0))))) (sSeq (sIf (mNot (tst (callV 3 g_is_int (aCons (sto (eVar 1)) (aCons (sto (eC (.int 1))) (aLast (sto (eC (.int 10))))))))) (sRaise 2) (sNx)) (sSeq (sIf (tst (bin dNotIn (eVar 1) (eVar 0))) (sRaise 4) (sNx)) (sSeq (sIf (tst (bin dEq (callD dLen (aLast (eVar 0))) (eC (.int 1)))) (sRaise 4) (sNx)) (sRet (lcM (iSq (eVar 0)) (tgN 2) (tst (bin dNe (eVar 2) (eVar 1))) (eVar 2) [2])))))
def g_without_number : En → Rs R := fnX m_without_number 1
def m_pruned : M Fl := sSeq (sDrop (callV 1 g_check_text (aLast (sto (eVar 0))))) (sSeq (sAsg 1 (sto (callV 1 g_items_in (aLast (sto (eVar 0)))))) (sSeq (sAsg 2 (eC (.int 0))) (sSeq (sWhile (tst (bin dLt (eVar 2) (callD dLen (aLast (eVar 1))))) (sSeq (sAsg 3 (sto (bin dAdd (slc (eVar 1) (noI) (soI (eVar 2))) (slc (eVar 1) (soI (bin dAdd (eVar 2) (eC (.int 1)))) (noI))))) (sIf (mAnd (tst (bin dNe (eVar 3) (mkLst (aNil)))) (tst (bin dEq (callV 1 g_set_of (aLast (sto (eVar 3)))) (callV 1 g_set_of (aLast (sto (eVar 1))))))) (sSeq (sAsg 1 (sto (eVar 3))) (sAsg 2 (eC (.int 0)))) (augM 2 (eC (.int 1))))) 400) (sRet (met1 dJoin (eC (.str ",")) (lcM (iSq (eVar 1)) (tgN 4) (M.ret true) (callV 1 g_text_of (aLast (sto (eVar 4)))) [4]))))))
def g_pruned : En → Rs R := fnX m_pruned 4
def m_with_item : M Fl := sSeq (sDrop (callV 1 g_check_text (aLast (sto (eVar 0))))) (sSeq (sDrop (callV 1 g_check_item (aLast (sto (eVar 1))))) (sRet (bin dAdd (bin dAdd (eVar 0) (eC (.str ","))) (callV 1 g_text_of (aLast (sto (eVar 1)))))))
def g_with_item : En → Rs R := fnX m_with_item 0
def m_without_item : M Fl := sSeq (sDrop (callV 1 g_check_text (aLast (sto (eVar 0))))) (sSeq (sAsg 2 (sto (met1 dSplit (eVar 0) (eC (.str ","))))) (sSeq (sIf (mNot (tst (callV 3 g_is_int (aCons (sto (eVar 1)) (aCons (sto (eC (.int 0))) (aLast (sto (bin dSub (callD dLen (aLast (eVar 2))) (eC (.int 1)))))))))) (sRaise 2) (sNx)) (sSeq (sIf (tst (bin dEq (callD dLen (aLast (eVar 2))) (eC (.int 1)))) (sRaise 4) (sNx)) (sRet (met1 dJoin (eC (.str ",")) (bin dAdd (slc (eVar 2) (noI) (soI (eVar 1))) (slc (eVar 2) (soI (bin dAdd (eVar 1) (eC (.int 1)))) (noI))))))))
def g_without_item : En → Rs R := fnX m_without_item 1
def m_L_without : M Fl := sSeq (sAsg 2 (eC .none)) (sSeq (sAsg 3 (eC .none)) (sSeq (sTry (sAsg 2 (sto (callV 2 g_without_item (aCons (sto (eVar 0)) (aLast (sto (eVar 1))))))) 4 3) (sRet (vIf (nonM 3) (eVar 2) (callIO 1 g_L_error (aLast (eVar 3)))))))
def g_L_without : En → Rs R := fnP m_L_without 3
def m_subsets : M Fl := sSeq (sAsg 1 (mkLst (aLast (sto (mkLst (aNil)))))) (sSeq (sFor (iRg rg2 (aCons (eC (.int 1)) (aLast (bin dAdd (eVar 0) (eC (.int 1)))))) (tgN 2) (augM 1 (lcM (iSq (eVar 1)) (tgN 3) (M.ret true) (bin dAdd (eVar 3) (mkLst (aLast (sto (eVar 2))))) [3]))) (sRet (eVar 1)))
def g_subsets : En → Rs R := fnP m_subsets 3
def m_sets_with_length : M Fl := sSeq (sIf (mNot (tst (callV 3 g_is_int (aCons (sto (eVar 0)) (aCons (sto (eC (.int 1))) (aLast (sto (eC (.int 6))))))))) (sRaise 2) (sNx)) (sSeq (sIf (mNot (tst (callV 3 g_is_int (aCons (sto (eVar 1)) (aCons (sto (eC (.int 0))) (aLast (sto (eC (.int 40))))))))) (sRaise 2) (sNx)) (sSeq (sAsg 2 (eC (.int 0))) (sSeq (sFor (iSq (callV 1 g_subsets (aLast (sto (eVar 0))))) (tgN 3) (sIf (mAnd (tst (bin dNe (eVar 3) (mkLst (aNil)))) (tst (bin dEq (callV 1 g_length_of (aLast (sto (eVar 3)))) (eVar 1)))) (augM 2 (eC (.int 1))) (sNx))) (sRet (eVar 2)))))
def g_sets_with_length : En → Rs R := fnX m_sets_with_length 2
def m_L_one : M Fl := sSeq (sIf (tst (bin dEq (eVar 0) (eC (.int 0)))) (sRet (callV 1 g_items_within (aLast (sto (eVar 1))))) (sNx)) (sSeq (sIf (tst (bin dEq (eVar 0) (eC (.int 1)))) (sRet (callV 1 g_greatest_items (aLast (sto (eVar 1))))) (sNx)) (sSeq (sIf (tst (bin dEq (eVar 0) (eC (.int 2)))) (sRet (callV 1 g_runs (aLast (sto (eVar 1))))) (sNx)) (sSeq (sIf (tst (bin dEq (eVar 0) (eC (.int 3)))) (sRet (callV 1 g_plain (aLast (sto (eVar 1))))) (sNx)) (sSeq (sIf (tst (bin dEq (eVar 0) (eC (.int 4)))) (sRet (callV 1 g_gaps (aLast (sto (eVar 1))))) (sNx)) (sSeq (sIf (tst (bin dEq (eVar 0) (eC (.int 5)))) (sRet (callV 1 g_shortest_length (aLast (sto (eVar 1))))) (sNx)) (sSeq (sIf (tst (bin dEq (eVar 0) (eC (.int 6)))) (sRet (callV 1 g_shortest_covers (aLast (sto (eVar 1))))) (sNx)) (sSeq (sIf (tst (bin dEq (eVar 0) (eC (.int 7)))) (sRet (callV 1 g_count_shortest (aLast (sto (eVar 1))))) (sNx)) (sSeq (sIf (tst (bin dEq (eVar 0) (eC (.int 8)))) (sRet (callV 1 g_first_shortest (aLast (sto (eVar 1))))) (sNx)) (sSeq (sIf (tst (bin dEq (eVar 0) (eC (.int 9)))) (sRet (callV 1 g_spare_signs (aLast (sto (eVar 1))))) (sNx)) (sSeq (sIf (tst (bin dEq (eVar 0) (eC (.int 10)))) (sRet (callV 1 g_fewest_items (aLast (sto (eVar 1))))) (sNx)) (sSeq (sIf (tst (bin dEq (eVar 0) (eC (.int 11)))) (sRet (callV 1 g_mirrored (aLast (sto (eVar 1))))) (sNx)) (sSeq (sIf (tst (bin dEq (eVar 0) (eC (.int 12)))) (sRet (callV 1 g_gains (aLast (sto (eVar 1))))) (sNx)) (sRet (vIf (tst (bin dEq (eVar 0) (eC (.int 13)))) (callV 1 g_others (aLast (sto (eVar 1)))) (callV 1 g_best_number (aLast (sto (eVar 1))))))))))))))))))
def g_L_one : En → Rs R := fnX m_L_one 0
def m_L_two : M Fl := sSeq (sIf (tst (bin dEq (eVar 0) (eC (.int 0)))) (sRet (callV 2 g_both (aCons (sto (eVar 1)) (aLast (sto (eVar 2)))))) (sNx)) (sSeq (sIf (tst (bin dEq (eVar 0) (eC (.int 1)))) (sRet (callV 2 g_common (aCons (sto (eVar 1)) (aLast (sto (eVar 2)))))) (sNx)) (sSeq (sIf (tst (bin dEq (eVar 0) (eC (.int 2)))) (sRet (callV 2 g_less (aCons (sto (eVar 1)) (aLast (sto (eVar 2)))))) (sNx)) (sSeq (sIf (tst (bin dEq (eVar 0) (eC (.int 3)))) (sRet (callV 2 g_moved (aCons (sto (eVar 1)) (aLast (sto (eVar 2)))))) (sNx)) (sSeq (sIf (tst (bin dEq (eVar 0) (eC (.int 4)))) (sRet (callV 2 g_with_number (aCons (sto (eVar 1)) (aLast (sto (eVar 2)))))) (sNx)) (sSeq (sIf (tst (bin dEq (eVar 0) (eC (.int 5)))) (sRet (callV 2 g_without_number (aCons (sto (eVar 1)) (aLast (sto (eVar 2)))))) (sNx)) (sSeq (sIf (tst (bin dEq (eVar 0) (eC (.int 6)))) (sRet (callV 2 g_longest_with (aCons (sto (eVar 1)) (aLast (sto (eVar 2)))))) (sNx)) (sSeq (sIf (tst (bin dEq (eVar 0) (eC (.int 7)))) (sRet (callV 2 g_contains (aCons (sto (eVar 1)) (aLast (sto (eVar 2)))))) (sNx)) (sRet (callV 2 g_sets_with_length (aCons (sto (eVar 1)) (aLast (sto (eVar 2)))))))))))))
def g_L_two : En → Rs R := fnX m_L_two 0
def m_L_asked : M Fl := sSeq (sAsg 4 (eC .none)) (sSeq (sTry (sIf (tst (bin dEq (eVar 0) (eC (.int 1)))) (sDrop (callV 2 g_L_one (aCons (sto (eVar 1)) (aLast (sto (eVar 2)))))) (sDrop (callV 3 g_L_two (aCons (sto (eVar 1)) (aCons (sto (eVar 2)) (aLast (sto (eVar 3)))))))) 5 4) (sRet (vIf (nonM 4) (eC (.str "done")) (callIO 1 g_L_error (aLast (eVar 4))))))
def g_L_asked : En → Rs R := fnP m_L_asked 2
def m_L_text_call : M Fl := sSeq (sIf (tst (bin dEq (eVar 0) (eC (.int 0)))) (sRet (callV 1 g_parse (aLast (sto (eVar 1))))) (sNx)) (sSeq (sIf (tst (bin dEq (eVar 0) (eC (.int 1)))) (sRet (callV 1 g_items (aLast (sto (eVar 1))))) (sNx)) (sSeq (sIf (tst (bin dEq (eVar 0) (eC (.int 2)))) (sRet (callV 1 g_needless (aLast (sto (eVar 1))))) (sNx)) (sSeq (sIf (tst (bin dEq (eVar 0) (eC (.int 3)))) (sRet (callV 1 g_covered_times (aLast (sto (eVar 1))))) (sNx)) (sSeq (sIf (tst (bin dEq (eVar 0) (eC (.int 4)))) (sRet (callV 1 g_tidy (aLast (sto (eVar 1))))) (sNx)) (sSeq (sIf (tst (bin dEq (eVar 0) (eC (.int 5)))) (sRet (callV 1 g_is_plain (aLast (sto (eVar 1))))) (sNx)) (sSeq (sIf (tst (bin dEq (eVar 0) (eC (.int 6)))) (sRet (callV 1 g_is_shortest (aLast (sto (eVar 1))))) (sNx)) (sSeq (sIf (tst (bin dEq (eVar 0) (eC (.int 7)))) (sRet (callV 1 g_shorter_by (aLast (sto (eVar 1))))) (sNx)) (sSeq (sIf (tst (bin dEq (eVar 0) (eC (.int 8)))) (sRet (callV 1 g_pruned (aLast (sto (eVar 1))))) (sNx)) (sSeq (sIf (tst (bin dEq (eVar 0) (eC (.int 9)))) (sRet (callV 2 g_mean_same (aCons (sto (eVar 1)) (aLast (sto (eC (.str "1"))))))) (sNx)) (sSeq (sIf (tst (bin dEq (eVar 0) (eC (.int 10)))) (sRet (callV 2 g_mean_same (aCons (sto (eC (.str "1"))) (aLast (sto (eVar 1)))))) (sNx)) (sSeq (sIf (tst (bin dEq (eVar 0) (eC (.int 11)))) (sRet (callV 2 g_join_texts (aCons (sto (eVar 1)) (aLast (sto (eC (.str "1"))))))) (sNx)) (sSeq (sIf (tst (bin dEq (eVar 0) (eC (.int 12)))) (sRet (callV 2 g_join_texts (aCons (sto (eC (.str "1"))) (aLast (sto (eVar 1)))))) (sNx)) (sRet (callV 2 g_contains (aCons (sto (mkLst (aLast (sto (eC (.int 1)))))) (aLast (sto (eVar 1))))))))))))))))))
def g_L_text_call : En → Rs R := fnX m_L_text_call 0
def m_L_first : M Fl := sSeq (sIf (mOr (tst (bin dNe (callV 1 g_item_numbers (aLast (sto (mkTup (aCons (sto (eC (.int 1))) (aCons (sto (eC (.int 7))) (aLast (sto (eC (.int 3)))))))))) (mkLst (aCons (sto (eC (.int 1))) (aCons (sto (eC (.int 4))) (aLast (sto (eC (.int 7))))))))) (mOr (tst (bin dNe (callV 1 g_greatest_items (aLast (sto (mkLst (aCons (sto (eC (.int 1))) (aCons (sto (eC (.int 2))) (aLast (sto (eC (.int 4)))))))))) (mkLst (aCons (sto (mkTup (aCons (sto (eC (.int 1))) (aCons (sto (eC (.int 2))) (aLast (sto (eC (.int 1)))))))) (aCons (sto (mkTup (aCons (sto (eC (.int 1))) (aCons (sto (eC (.int 4))) (aLast (sto (eC (.int 3)))))))) (aLast (sto (mkTup (aCons (sto (eC (.int 2))) (aCons (sto (eC (.int 4))) (aLast (sto (eC (.int 2)))))))))))))) (tst (bin dNe (callV 1 g_parse (aLast (sto (eC (.str "5,1-3"))))) (mkLst (aCons (sto (eC (.int 1))) (aCons (sto (eC (.int 2))) (aCons (sto (eC (.int 3))) (aLast (sto (eC (.int 5)))))))))))) (sRet (eC (.bool false))) (sNx)) (sSeq (sIf (mOr (tst (bin dNe (callV 1 g_needless (aLast (sto (eC (.str "1-3,2"))))) (mkLst (aLast (sto (eC (.int 1))))))) (mOr (tst (bin dNe (callV 1 g_plain (aLast (sto (eVar 0)))) (eC (.str "1-3,5,7,9")))) (mOr (tst (bin dNe (callV 1 g_first_shortest (aLast (sto (eVar 0)))) (eC (.str "1-9/2,2")))) (tst (bin dNe (callV 1 g_fewest_items (aLast (sto (eVar 0)))) (eC (.int 2))))))) (sRet (eC (.bool false))) (sNx)) (sRet (vAnd (bin dEq (callV 1 g_item_text (aLast (sto (mkTup (aCons (sto (eC (.int 1))) (aCons (sto (eC (.int 1))) (aLast (sto (eC (.int 1)))))))))) (eC (.str "1"))) (vAnd (bin dEq (callV 1 g_item_text (aLast (sto (mkTup (aCons (sto (eC (.int 1))) (aCons (sto (eC (.int 3))) (aLast (sto (eC (.int 1)))))))))) (eC (.str "1-3"))) (bin dEq (callV 1 g_item_text (aLast (sto (mkTup (aCons (sto (eC (.int 1))) (aCons (sto (eC (.int 7))) (aLast (sto (eC (.int 3)))))))))) (eC (.str "1-7/3")))))))
def g_L_first : En → Rs R := fnP m_L_first 0
def m_L_second : M Fl := sSeq (sIf (mOr (tst (bin dNe (callV 1 g_others (aLast (sto (mkLst (aCons (sto (eC (.int 1))) (aCons (sto (eC (.int 2))) (aCons (sto (eC (.int 3))) (aCons (sto (eC (.int 4))) (aCons (sto (eC (.int 5))) (aCons (sto (eC (.int 6))) (aLast (sto (eC (.int 7)))))))))))))) (mkLst (aCons (sto (eC (.int 8))) (aCons (sto (eC (.int 9))) (aLast (sto (eC (.int 10))))))))) (tst (bin dNe (bin dIx (callV 1 g_gains (aLast (sto (mkLst (aCons (sto (eC (.int 1))) (aCons (sto (eC (.int 3))) (aCons (sto (eC (.int 5))) (aCons (sto (eC (.int 7))) (aLast (sto (eC (.int 9)))))))))))) (eC (.int 0))) (mkTup (aCons (sto (eC (.int 2))) (aLast (sto (eC (.int 2))))))))) (sRet (eC (.bool false))) (sNx)) (sRet (bin dEq (callV 1 g_pruned (aLast (sto (eC (.str "1,1-3,3"))))) (eC (.str "1-3"))))
def g_L_second : En → Rs R := fnP m_L_second 0
end Rt
namespace Rt
open PySem PySem.Spec PyProof.Rows L2
/-! ### comprehensions, evaluated -/
theorem bnd_ok {α β : Type} {f : M α} {h : α → M β} {Γ Γ1 : En} {a : α} (e : f Γ = .ok a Γ1) : M.bnd f h Γ = h a Γ1 := by
  unfold M.bnd
  rw [e]
theorem wp_get (Γ : En) (j : Nat) : ∀ vs : List Nat, (wipeE Γ vs)[j]? = if j ∈ vs ∧ j < Γ.length then some .un else Γ[j]?
  | [] => by simp [wipeE]
  | v :: vs => by
    have hl : ∀ vs : List Nat, (wipeE Γ vs).length = Γ.length := by
      intro vs
      induction vs with
      | nil => rfl
      | cons a r ih => simp [wipeE, ih]
    simp only [wipeE, List.getElem?_set, wp_get Γ j vs, hl]
    by_cases h : v = j
    · subst h
      by_cases h2 : v < Γ.length
      · simp [h2]
      · simp [h2]
    · simp [h, Ne.symm h]
theorem wp_len (Γ : En) : ∀ vs : List Nat, (wipeE Γ vs).length = Γ.length
  | [] => rfl
  | v :: vs => by simp [wipeE, wp_len Γ vs]
theorem bk_len (Γ0 Γ1 : En) : ∀ vs : List Nat, (backE Γ0 Γ1 vs).length = Γ1.length
  | [] => rfl
  | v :: vs => by simp [backE, bk_len Γ0 Γ1 vs]
def bkS : Option Sl → Sl
  | some (.val d) => .val d
  | _ => .un
theorem bk_get (Γ0 Γ1 : En) (j : Nat) : ∀ vs : List Nat, (backE Γ0 Γ1 vs)[j]? = if j ∈ vs ∧ j < Γ1.length then some (bkS Γ0[j]?) else Γ1[j]?
  | [] => by simp [backE]
  | v :: vs => by
    have e : (backE Γ0 Γ1 (v :: vs)) = (backE Γ0 Γ1 vs).set v (bkS Γ0[v]?) := by
      show (backE Γ0 Γ1 vs).set v _ = _
      congr 1
    rw [e, List.getElem?_set, bk_get Γ0 Γ1 j vs, bk_len]
    by_cases h : v = j
    · subst h
      by_cases h2 : v < Γ1.length
      · simp [h2]
      · simp [h2]
    · simp [h, Ne.symm h]
theorem back_wipe (Γ0 Γ1 : En) (vs : List Nat) : backE Γ0 Γ1 vs = backE Γ0 (wipeE Γ1 vs) vs := by
  apply List.ext_getElem?
  intro j
  rw [bk_get, bk_get, wp_get, wp_len]
  by_cases h : j ∈ vs ∧ j < Γ1.length <;> simp [h]
/-- one turn's value -/
structure LcS (tg : Tg) (t : M Bool) (f : M R) (vs : List Nat) (B : En) (d : D) (b : Bool) (e : D) : Prop where
  go : ∃ Γd, tg d B = some Γd ∧ wipeE Γd vs = B ∧ t Γd = .ok b Γd ∧ (b = true → ∃ r, f Γd = .ok r Γd ∧ stD r Γd = .ok e Γd)
theorem lcL_ok {α : Type} {tg : Tg} {t : M Bool} {f : M R} {vs : List Nat} {B : En} (e : α → D) (p : α → Bool) (g : α → D) : ∀ (xs : List α) (acc : List D) (Γ : En), (∀ x ∈ xs, LcS tg t f vs B (e x) (p x) (g x)) → wipeE Γ vs = B → acc.length + xs.length ≤ 1000000 →
    ∃ Γ', lcL tg t f vs (xs.map e) acc Γ = .ok (acc ++ (xs.filter p).map g) Γ' ∧ wipeE Γ' vs = B
  | [], acc, Γ, _, hw, _ => ⟨Γ, by simp [lcL, M.ret], hw⟩
  | x :: xs, acc, Γ, h, hw, hl => by
    obtain ⟨Γd, h1, h2, h3, h4⟩ := (h x (by simp)).go
    simp only [List.map_cons, lcL, hw, h1, M.bnd, h3]
    have hl : acc.length + (xs.length + 1) ≤ 1000000 := by simpa using hl
    by_cases hp : p x = true
    · obtain ⟨r, h5, h6⟩ := h4 hp
      obtain ⟨Γ', q1, q2⟩ := lcL_ok e p g xs (acc ++ [g x]) Γd (fun y hy => h y (by simp [hy])) h2 (by simp; omega)
      refine ⟨Γ', ?_, q2⟩
      rw [if_pos hp]
      rw [bnd_ok h5, bnd_ok h6, if_pos (by omega), q1]
      simp [hp]
    · obtain ⟨Γ', q1, q2⟩ := lcL_ok e p g xs acc Γd (fun y hy => h y (by simp [hy])) h2 (by omega)
      refine ⟨Γ', ?_, q2⟩
      rw [if_neg hp, q1]
      simp [hp]
theorem lcM_ok {α : Type} {it : M (List D)} {tg : Tg} {t : M Bool} {f : M R} {vs : List Nat} {Γ Γ1 : En} (e : α → D) (p : α → Bool) (g : α → D) (xs : List α) (hi : it Γ = .ok (xs.map e) Γ1) (hl : xs.length ≤ 1000000) (h : ∀ x ∈ xs, LcS tg t f vs (wipeE Γ1 vs) (e x) (p x) (g x)) :
    lcM it tg t f vs Γ = .ok (.own (.lst ((xs.filter p).map g))) (backE Γ1 (wipeE Γ1 vs) vs) := by
  obtain ⟨Γ', q1, q2⟩ := lcL_ok (B := wipeE Γ1 vs) e p g xs [] Γ1 h rfl (by simpa using hl)
  simp only [lcM, M.bnd, hi, q1, List.nil_append]
  rw [back_wipe, q2]
theorem lcM_all {α : Type} {it : M (List D)} {tg : Tg} {f : M R} {vs : List Nat} {Γ Γ1 : En} (e : α → D) (g : α → D) (xs : List α) (hi : it Γ = .ok (xs.map e) Γ1) (hl : xs.length ≤ 1000000) (h : ∀ x ∈ xs, LcS tg (M.ret true) f vs (wipeE Γ1 vs) (e x) true (g x)) :
    lcM it tg (M.ret true) f vs Γ = .ok (.own (.lst (xs.map g))) (backE Γ1 (wipeE Γ1 vs) vs) := by
  rw [lcM_ok e (fun _ => true) g xs hi hl h, List.filter_eq_self.mpr fun _ _ => rfl]
/-! ### eqv -/
mutual
theorem eqv_self : ∀ d : D, d.canLay0 = true → PyData.eqv d d = true
  | .none, _ => by simp [PyData.eqv]
  | .bool b, _ => by simp [PyData.eqv]
  | .int b, _ => by simp [PyData.eqv]
  | .str b, _ => by simp [PyData.eqv]
  | .list b, h => by
    simp only [PyData.canLay0] at h
    simp only [PyData.eqv, eqvAll_self b h]
  | .tuple b, h => by
    simp only [PyData.canLay0] at h
    simp only [PyData.eqv, eqvAll_self b h]
  | .dict b, h => by simp [PyData.canLay0] at h
theorem eqvAll_self : ∀ d : List D, PyData.canLayAll0 d = true → PyData.eqvAll d d = true
  | [], _ => by simp [PyData.eqvAll]
  | a :: r, h => by
    simp only [PyData.canLayAll0, Bool.and_eq_true] at h
    simp only [PyData.eqvAll, eqv_self a h.1, eqvAll_self r h.2, Bool.and_self]
end
/-! ### typed data -/
structure Enc {α : Type} [DecidableEq α] (n : Nat) (e : α → D) : Prop where
  lay : ∀ x, (e x).canLay0 = true
  dep : ∀ x, (e x).depth ≤ n
  eqv : ∀ x y, PyData.eqv (e x) (e y) = decide (x = y)
theorem Enc.int : Enc 0 PyData.int := ⟨fun x => by simp [PyData.canLay0], fun x => by simp [PyData.depth], fun x y => by simp only [PyData.eqv]; by_cases h : x = y <;> simp [h]⟩
section
variable {α : Type} [DecidableEq α] {n : Nat} {e : α → D}
theorem Enc.layAll (E : Enc n e) : ∀ xs : List α, PyData.canLayAll0 (xs.map e) = true
  | [] => by simp [PyData.canLayAll0]
  | x :: xs => by simp only [List.map_cons, PyData.canLayAll0, E.lay x, E.layAll xs, Bool.and_self]
theorem Enc.depAll (E : Enc n e) : ∀ xs : List α, PyData.depthAll (xs.map e) ≤ n
  | [] => by simp [PyData.depthAll]
  | x :: xs => by
    simp only [List.map_cons, PyData.depthAll]
    have := E.dep x
    have := E.depAll xs
    omega
theorem Enc.eqvAll (E : Enc n e) : ∀ xs ys : List α, PyData.eqvAll (xs.map e) (ys.map e) = decide (xs = ys)
  | [], [] => by simp [PyData.eqvAll]
  | [], _ :: _ => by simp [PyData.eqvAll]
  | _ :: _, [] => by simp [PyData.eqvAll]
  | x :: xs, y :: ys => by
    simp only [List.map_cons, PyData.eqvAll, E.eqv x y, E.eqvAll xs ys]
    by_cases h1 : x = y <;> by_cases h2 : xs = ys <;> simp [h1, h2]
theorem Enc.list (E : Enc n e) : Enc (n + 1) (fun xs : List α => PyData.list (xs.map e)) :=
  ⟨fun xs => by simp only [PyData.canLay0, E.layAll xs], fun xs => by simp only [PyData.depth]; have := E.depAll xs; omega, fun xs ys => by simp only [PyData.eqv, E.eqvAll xs ys]⟩
theorem Enc.tuple (E : Enc n e) : Enc (n + 1) (fun xs : List α => PyData.tuple (xs.map e)) :=
  ⟨fun xs => by simp only [PyData.canLay0, E.layAll xs], fun xs => by simp only [PyData.depth]; have := E.depAll xs; omega, fun xs ys => by simp only [PyData.eqv, E.eqvAll xs ys]⟩
theorem Enc.shaped (E : Enc n e) (hn : n ≤ 64) (x : α) : SeqAt.shaped (e x) = true := by
  unfold SeqAt.shaped
  rw [E.lay x, decide_eq_true (Nat.le_trans (E.dep x) hn)]
  rfl
theorem Enc.deqv (E : Enc n e) (hn : n ≤ 64) (x y : α) : dEqv (e x) (e y) = some (decide (x = y)) := by
  have h := E.eqv x y
  have h1 := E.shaped hn x
  have h2 := E.shaped hn y
  unfold dEqv
  split
  · rename_i i j ex ey
    rw [ex, ey] at h
    simp only [PyData.eqv] at h
    rw [h]
  · rename_i i j ex ey
    rw [ex, ey] at h
    simp only [PyData.eqv] at h
    rw [h]
  · rw [h1, h2, h]; rfl
theorem Enc.eq (E : Enc n e) (hn : n ≤ 64) (x y : α) : dEq (e x) (e y) = some (.val (.bool (decide (x = y)))) := by unfold dEq; rw [E.deqv hn]; rfl
theorem Enc.ne (E : Enc n e) (hn : n ≤ 64) (x y : α) : dNe (e x) (e y) = some (.val (.bool (!decide (x = y)))) := by unfold dNe; rw [E.deqv hn]; rfl
end
/-- an item -/
abbrev Itm := Int × Int × Int
def iD (i : Itm) : D := .tuple [.int i.1, .int i.2.1, .int i.2.2]
theorem Enc.itm : Enc 1 iD := ⟨fun x => by simp [iD, PyData.canLay0, PyData.canLayAll0], fun x => by simp [iD, PyData.depth, PyData.depthAll], fun x y => by
  obtain ⟨a, b, c⟩ := x
  obtain ⟨a', b', c'⟩ := y
  simp only [iD, PyData.eqv, PyData.eqvAll, Prod.mk.injEq]
  by_cases h1 : a = a' <;> by_cases h2 : b = b' <;> by_cases h3 : c = c' <;> simp [h1, h2, h3]⟩
abbrev dl (S : List Int) : D := .list (S.map PyData.int)
abbrev di (S : List Itm) : D := .list (S.map iD)
theorem eq_dl (x y : List Int) : dEq (.list (x.map PyData.int)) (.list (y.map PyData.int)) = some (.val (.bool (decide (x = y)))) := Enc.int.list.eq (by decide) x y
theorem ne_dl (x y : List Int) : dNe (.list (x.map PyData.int)) (.list (y.map PyData.int)) = some (.val (.bool (!decide (x = y)))) := Enc.int.list.ne (by decide) x y
theorem eq_di (x y : List Itm) : dEq (.list (x.map iD)) (.list (y.map iD)) = some (.val (.bool (decide (x = y)))) := Enc.itm.list.eq (by decide) x y
theorem ne_di (x y : List Itm) : dNe (.list (x.map iD)) (.list (y.map iD)) = some (.val (.bool (!decide (x = y)))) := Enc.itm.list.ne (by decide) x y
theorem ne_nil_nil : dNe (.list []) (.list []) = some (.val (.bool false)) := ne_dl [] []
theorem ne_nil_int (x : List Int) : dNe (.list (x.map PyData.int)) (.list []) = some (.val (.bool (!decide (x = [])))) := ne_dl x []
theorem ne_nil_itm (x : List Itm) : dNe (.list (x.map iD)) (.list []) = some (.val (.bool (!decide (x = [])))) := ne_di x []
theorem in_dl (a : Int) (x : List Int) : inD (.int a) (.list (x.map PyData.int)) = some (decide (a ∈ x)) := by
  have h1 : (x.map PyData.int).all flatD = true := by simp [flatD]
  have h2 : ((x.map PyData.int).any fun z => PyData.eqv z (.int a)) = decide (a ∈ x) := by
    induction x with
    | nil => rfl
    | cons y r ih =>
      simp only [List.map_cons, List.any_cons, ih (by simp [flatD]), PyData.eqv]
      by_cases h : y = a <;> by_cases h' : a ∈ r <;> simp [h, h', Ne.symm] <;> (try (intro z; exact absurd z.symm h))
  unfold inD
  simp only [flatD, h1, Bool.and_self, if_true, h2]
end Rt
namespace Rt
open PySem PySem.Spec PyProof.Rows L2
/-! ### meanings, applied: rewriting rules -/
def Rs.and {α β : Type} (x : Rs α) (h : α → M β) : Rs β := match x with
  | .ok a g => h a g
  | .exc c g => .exc c g
  | .bad => .bad
def oB {α β : Type} (o : Option α) (h : α → Option β) : Option β := match o with
  | some a => h a
  | none => none
section
variable {α β : Type} {Γ : En}
@[simp] theorem oB_some {a : α} {h : α → Option β} : oB (some a) h = h a := (rfl)
@[simp] theorem oB_none {h : α → Option β} : oB none h = none := (rfl)
@[simp] theorem and_ok {a : α} {h : α → M β} : (Rs.ok a Γ).and h = h a Γ := (rfl)
@[simp] theorem and_exc {c : Nat} {h : α → M β} : (Rs.exc c Γ : Rs α).and h = .exc c Γ := (rfl)
@[simp] theorem and_bad {h : α → M β} : (Rs.bad : Rs α).and h = .bad := (rfl)
@[simp] theorem ap_ret {a : α} : M.ret a Γ = .ok a Γ := (rfl)
@[simp] theorem ap_bad : (M.bad : M α) Γ = .bad := (rfl)
theorem ap_bnd {f : M α} {h : α → M β} : M.bnd f h Γ = (f Γ).and h := (rfl)
@[simp] theorem ap_ofO {a : α} : M.ofO (some a) Γ = .ok a Γ := (rfl)
@[simp] theorem ap_ofO' : M.ofO (none : Option α) Γ = .bad := (rfl)
end
section
variable {Γ : En} {f g : M R} {a b : M Fl} {t u : M Bool} {fs : M (List R)} {i : Nat} {r : R} {d : D}
def slR (i : Nat) : Option Sl → En → Rs R
  | some (.val _), Γ => .ok (.bor i) Γ
  | some (.own _ _), Γ => .ok (.bor i) Γ
  | _, _ => .bad
@[simp] theorem slR_val : slR i (some (.val d)) Γ = .ok (.bor i) Γ := (rfl)
@[simp] theorem slR_own {k : Option Nat} {o : Ob} : slR i (some (.own k o)) Γ = .ok (.bor i) Γ := (rfl)
@[simp] theorem ap_eVar : eVar i Γ = slR i Γ[i]? Γ := by
  first
    | exact Eq.trans rfl rfl
    | unfold eVar slR
      split <;> simp_all
@[simp] theorem ap_eC : eC d Γ = .ok (.val d) Γ := (rfl)
@[simp] theorem ap_holdV : hold (.val d) Γ = .ok (.val d) Γ := (rfl)
@[simp] theorem ap_holdL {ds : List D} : hold (.own (.lst ds)) Γ = .ok (.val (.list ds)) Γ := (rfl)
@[simp] theorem ap_holdB : hold (.bor i) Γ = .ok (.bor i) Γ := (rfl)
@[simp] theorem ap_stV : stD (.val d) Γ = .ok d Γ := (rfl)
@[simp] theorem ap_stL {ds : List D} : stD (.own (.lst ds)) Γ = .ok (.list ds) Γ := (rfl)
def stB (i : Nat) (Γ : En) : Option Sl → Rs D
  | some (.val d) => .ok d Γ
  | some (.own _ (.lst ds)) => .ok (.list ds) (Γ.set i (.val (.list ds)))
  | _ => .bad
@[simp] theorem stB_val : stB i Γ (some (.val d)) = .ok d Γ := (rfl)
@[simp] theorem stB_lst {k : Option Nat} {ds : List D} : stB i Γ (some (.own k (.lst ds))) = .ok (.list ds) (Γ.set i (.val (.list ds))) := (rfl)
@[simp] theorem ap_stB : stD (.bor i) Γ = stB i Γ Γ[i]? := by
  first
    | exact Eq.trans rfl rfl
    | unfold stD stB
      dsimp only
      split <;> simp_all
@[simp] theorem ap_stR : stR r Γ = (stD r Γ).and fun d Γ => .ok (.val d) Γ := (rfl)
@[simp] theorem ap_sto : sto f Γ = (f Γ).and stR := (rfl)
@[simp] theorem ap_aNil : aNil Γ = .ok [] Γ := (rfl)
@[simp] theorem ap_aLast : aLast f Γ = (f Γ).and fun r Γ => .ok [r] Γ := (rfl)
@[simp] theorem ap_aCons : aCons f fs Γ = (f Γ).and fun r Γ => (hold r Γ).and fun r Γ => (fs Γ).and fun rs Γ => .ok (r :: rs) Γ := (rfl)
@[simp] theorem rd_val : rdD Γ (.val d) = some d := (rfl)
@[simp] theorem rd_own {ds : List D} : rdD Γ (.own (.lst ds)) = some (.list ds) := (rfl)
def rdB : Option Sl → Option D
  | some (.val d) => some d
  | some (.own _ o) => obD o
  | _ => none
@[simp] theorem rdB_val : rdB (some (.val d)) = some d := (rfl)
@[simp] theorem rdB_lst {k : Option Nat} {ds : List D} : rdB (some (.own k (.lst ds))) = some (.list ds) := (rfl)
@[simp] theorem rd_bor : rdD Γ (.bor i) = rdB Γ[i]? := by
  first
    | exact Eq.trans rfl rfl
    | unfold rdD rdB
      dsimp only
      split <;> simp_all
@[simp] theorem rdAll_nil : rdAll Γ [] = some [] := (rfl)
def oOk (Γ : En) : Option R → Rs R
  | some x => .ok x Γ
  | none => .bad
@[simp] theorem oOk_some : oOk Γ (some r) = .ok r Γ := (rfl)
@[simp] theorem oOk_none : oOk Γ none = .bad := (rfl)
@[simp] theorem ap_un1 {dop : D → Option R} : un1 dop r Γ = oOk Γ (oB (rdD Γ r) dop) := by
  first
    | exact Eq.trans rfl rfl
    | unfold un1 oOk
      cases rdD Γ r <;> simp
      all_goals (split <;> simp_all)
@[simp] theorem ap_op2 {dop : D → D → Option R} {q : R} : op2 dop r q Γ = oOk Γ (oB (rdD Γ r) fun x => oB (rdD Γ q) fun y => dop x y) := by
  first
    | exact Eq.trans rfl rfl
    | unfold op2 oOk
      cases rdD Γ r <;> cases rdD Γ q <;> simp
      all_goals (split <;> simp_all)
@[simp] theorem ap_bin {dop : D → D → Option R} : bin dop f g Γ = (f Γ).and fun ra Γ => (hold ra Γ).and fun ra Γ => (g Γ).and fun rb Γ => op2 dop ra rb Γ := (rfl)
def tstO (Γ : En) : Option D → Rs Bool
  | some (.bool b) => .ok b Γ
  | _ => .bad
@[simp] theorem tstO_ok {x : Bool} : tstO Γ (some (.bool x)) = .ok x Γ := (rfl)
@[simp] theorem ap_tst : tst f Γ = (f Γ).and fun r Γ => tstO Γ (rdD Γ r) := by
  first
    | exact Eq.trans rfl rfl
    | unfold tst tstO
      rw [ap_bnd]
      congr 1
@[simp] theorem ap_mAnd : mAnd t u Γ = (t Γ).and fun b Γ => if b = true then u Γ else .ok false Γ := by
  first
    | exact Eq.trans rfl rfl
    | unfold mAnd
      rw [ap_bnd]
      congr 1
      funext b Γ
      split <;> rfl
@[simp] theorem ap_mOr : mOr t u Γ = (t Γ).and fun b Γ => if b = true then .ok true Γ else u Γ := by
  first
    | exact Eq.trans rfl rfl
    | unfold mOr
      rw [ap_bnd]
      congr 1
      funext b Γ
      split <;> rfl
@[simp] theorem ap_mNot : mNot t Γ = (t Γ).and fun b Γ => .ok (!b) Γ := (rfl)
@[simp] theorem ap_vAnd : vAnd f g Γ = (tst f Γ).and fun b Γ => if b = true then g Γ else .ok (.val (.bool false)) Γ := by
  first
    | exact Eq.trans rfl rfl
    | unfold vAnd
      rw [ap_bnd]
      congr 1
      funext b Γ
      split <;> rfl
@[simp] theorem ap_vOr : vOr f g Γ = (tst f Γ).and fun b Γ => if b = true then .ok (.val (.bool true)) Γ else g Γ := by
  first
    | exact Eq.trans rfl rfl
    | unfold vOr
      rw [ap_bnd]
      congr 1
      funext b Γ
      split <;> rfl
@[simp] theorem ap_vNot : vNot f Γ = (tst f Γ).and fun b Γ => .ok (.val (.bool (!b))) Γ := (rfl)
@[simp] theorem ap_vIf : vIf t f g Γ = (t Γ).and fun b Γ => if b = true then f Γ else g Γ := by
  first
    | exact Eq.trans rfl rfl
    | unfold vIf
      rw [ap_bnd]
      congr 1
      funext b Γ
      split <;> rfl
@[simp] theorem ap_sIf : sIf t a b Γ = (t Γ).and fun x Γ => if x = true then a Γ else b Γ := by
  first
    | exact Eq.trans rfl rfl
    | unfold sIf
      rw [ap_bnd]
      congr 1
      funext b Γ
      split <;> rfl
def sqF (b : M Fl) : Fl → M Fl
  | .nx => b
  | x => M.ret x
@[simp] theorem sqF_nx : sqF b .nx Γ = b Γ := (rfl)
@[simp] theorem sqF_ret : sqF b (.ret r) Γ = .ok (.ret r) Γ := (rfl)
@[simp] theorem sqF_brk : sqF b .brk Γ = .ok .brk Γ := (rfl)
@[simp] theorem sqF_cnt : sqF b .cnt Γ = .ok .cnt Γ := (rfl)
@[simp] theorem ap_sSeq : sSeq a b Γ = (a Γ).and (sqF b) := by
  first
    | exact Eq.trans rfl rfl
    | unfold sSeq sqF
      rw [ap_bnd]
      congr 1
@[simp] theorem ap_sNx : sNx Γ = .ok .nx Γ := (rfl)
@[simp] theorem ap_sDrop : sDrop f Γ = (f Γ).and fun _ Γ => .ok .nx Γ := (rfl)
def mvB (i : Nat) (Γ : En) : Option Sl → Rs R
  | some (.val d) => .ok (.val d) Γ
  | some (.own _ o) => .ok (.own o) (Γ.set i .un)
  | _ => .bad
@[simp] theorem mvB_val : mvB i Γ (some (.val d)) = .ok (.val d) Γ := (rfl)
@[simp] theorem mvB_own {k : Option Nat} {o : Ob} : mvB i Γ (some (.own k o)) = .ok (.own o) (Γ.set i .un) := (rfl)
@[simp] theorem ap_mvB : mvR (.bor i) Γ = mvB i Γ Γ[i]? := by
  first
    | exact Eq.trans rfl rfl
    | unfold mvR mvB
      dsimp only
      split <;> simp_all
@[simp] theorem ap_mvV : mvR (.val d) Γ = .ok (.val d) Γ := (rfl)
@[simp] theorem ap_mvO {o : Ob} : mvR (.own o) Γ = .ok (.own o) Γ := (rfl)
@[simp] theorem ap_sRet : sRet f Γ = (f Γ).and fun r Γ => (mvR r Γ).and fun r Γ => .ok (.ret r) Γ := (rfl)
@[simp] theorem ap_sAsg : sAsg i f Γ = (f Γ).and fun r Γ => (asgR i r Γ).and fun _ Γ => .ok .nx Γ := (rfl)
@[simp] theorem asg_val : asgR i (.val d) Γ = if i < Γ.length then .ok () (Γ.set i (.val d)) else .bad := (rfl)
@[simp] theorem asg_own {o : Ob} : asgR i (.own o) Γ = if i < Γ.length then .ok () (Γ.set i (.own none o)) else .bad := (rfl)
def asgB (i j : Nat) (Γ : En) : Option Sl → Rs Unit
  | some (.val d) => .ok () (Γ.set i (.val d))
  | some (.own _ (.lst ds)) => if j = i then .ok () Γ else .ok () ((Γ.set j (.val (.list ds))).set i (.val (.list ds)))
  | _ => .bad
@[simp] theorem asgB_val {j : Nat} : asgB i j Γ (some (.val d)) = .ok () (Γ.set i (.val d)) := (rfl)
@[simp] theorem asgB_lst {j : Nat} {k : Option Nat} {ds : List D} : asgB i j Γ (some (.own k (.lst ds))) = if j = i then .ok () Γ else .ok () ((Γ.set j (.val (.list ds))).set i (.val (.list ds))) := (rfl)
@[simp] theorem asg_bor {j : Nat} : asgR i (.bor j) Γ = if i < Γ.length then asgB i j Γ Γ[j]? else .bad := by
  first
    | exact Eq.trans rfl rfl
    | unfold asgR asgB
      split
      · dsimp only
        split <;> simp_all
      · rfl
@[simp] theorem vals_nil : valsOf [] = some [] := (rfl)
@[simp] theorem vals_cons {rs : List R} : valsOf (.val d :: rs) = (valsOf rs).map (d :: ·) := (rfl)
def mkO (c : List D → R) : Option (List D) → Option R
  | some ds => if ds.length ≤ 1000000 then some (c ds) else none
  | none => none
@[simp] theorem mkO_some {c : List D → R} {ds : List D} : mkO c (some ds) = if ds.length ≤ 1000000 then some (c ds) else none := (rfl)
@[simp] theorem ap_mkTup : mkTup fs Γ = (fs Γ).and fun rs Γ => M.ofO (mkO (fun ds => .val (.tuple ds)) (valsOf rs)) Γ := by
  first
    | exact Eq.trans rfl rfl
    | unfold mkTup mkO
      rw [ap_bnd]
      congr 1
@[simp] theorem ap_mkLst : mkLst fs Γ = (fs Γ).and fun rs Γ => M.ofO (mkO (fun ds => .own (.lst ds)) (valsOf rs)) Γ := by
  first
    | exact Eq.trans rfl rfl
    | unfold mkLst mkO
      rw [ap_bnd]
      congr 1
@[simp] theorem ap_callD {dc : List D → Option R} : callD dc fs Γ = (fs Γ).and fun rs Γ => oOk Γ (oB (rdAll Γ rs) dc) := by
  first
    | exact Eq.trans rfl rfl
    | unfold callD oOk
      rw [ap_bnd]
      congr 1
      funext rs Γ
      cases rdAll Γ rs <;> simp
      all_goals (split <;> simp_all)
theorem rdAll_one : rdAll Γ [r] = (rdD Γ r).map ([·]) := by
  first
    | exact Eq.trans rfl rfl
    | unfold rdAll
      cases h : rdD Γ r <;> simp [rdAll, h]
@[simp] theorem ap_callV {n : Nat} {h : En → Rs R} : callV n h fs Γ = (fs Γ).and fun rs Γ => (M.ofO (valsOf rs) Γ).and fun ds Γ => if ds.length = n then retV (h (slV ds)) Γ else .bad := (rfl)
@[simp] theorem slV_nil : slV [] = [] := (rfl)
@[simp] theorem slV_cons {ds : List D} : slV (d :: ds) = .val d :: slV ds := (rfl)
@[simp] theorem ap_iSq : iSq f Γ = (f Γ).and fun r Γ => (stD r Γ).and fun d Γ => M.ofO (itemsD d) Γ := (rfl)
@[simp] theorem items_list {ds : List D} : itemsD (.list ds) = some ds := (rfl)
@[simp] theorem items_tup {ds : List D} : itemsD (.tuple ds) = some ds := (rfl)
def mt1 (dm : D → D → Option R) (g : M R) (r : R) (Γ : En) : Option D → Rs R
  | some (.str _) => (g Γ).and fun q Γ => op2 dm r q Γ
  | _ => .bad
@[simp] theorem mt1_str {dm : D → D → Option R} {z : Str} : mt1 dm g r Γ (some (.str z)) = (g Γ).and fun q Γ => op2 dm r q Γ := (rfl)
@[simp] theorem ap_met1 {dm : D → D → Option R} : met1 dm f g Γ = (f Γ).and fun r Γ => (hold r Γ).and fun r Γ => mt1 dm g r Γ (rdD Γ r) := by
  first
    | exact Eq.trans rfl rfl
    | unfold met1 mt1
      rw [ap_bnd]
      congr 1
@[simp] theorem ap_isi {T : String} : isi T f Γ = (f Γ).and fun r Γ => un1 (dIsi T) r Γ := (rfl)
@[simp] theorem ap_sFor {it : M (List D)} {tg : Tg} : sFor it tg a Γ = (it Γ).and fun ds Γ => forL tg a ds Γ := (rfl)
def irO (Γ : En) : Option (List D) → Rs (List D)
  | some l => .ok l Γ
  | none => .bad
@[simp] theorem irO_some {l : List D} : irO Γ (some l) = .ok l Γ := (rfl)
@[simp] theorem ap_iRg {h : List D → Option (List D)} : iRg h fs Γ = (fs Γ).and fun rs Γ => irO Γ (oB (rdAll Γ rs) h) := by
  first
    | exact Eq.trans rfl rfl
    | unfold iRg irO
      rw [ap_bnd]
      congr 1
      funext rs Γ
      cases rdAll Γ rs <;> simp
      all_goals (split <;> simp_all)
def flF (tg : Tg) (b : M Fl) (ds : List D) : Fl → M Fl
  | .nx => forL tg b ds
  | .cnt => forL tg b ds
  | .brk => M.ret .nx
  | .ret r => M.ret (.ret r)
@[simp] theorem flF_nx {tg : Tg} {ds : List D} : flF tg b ds .nx Γ = forL tg b ds Γ := (rfl)
@[simp] theorem flF_ret {tg : Tg} {ds : List D} : flF tg b ds (.ret r) Γ = .ok (.ret r) Γ := (rfl)
def tgO (tg : Tg) (b : M Fl) (ds : List D) : Option En → Rs Fl
  | none => .bad
  | some Γ1 => (b Γ1).and (flF tg b ds)
@[simp] theorem tgO_some {tg : Tg} {ds : List D} {Γ1 : En} : tgO tg b ds (some Γ1) = (b Γ1).and (flF tg b ds) := (rfl)
@[simp] theorem for_nil {tg : Tg} : forL tg b [] Γ = .ok .nx Γ := (rfl)
theorem for_cons {tg : Tg} {ds : List D} : forL tg b (d :: ds) Γ = tgO tg b ds (tg d Γ) := by
  first
    | exact Eq.trans rfl rfl
    | simp only [forL]
      unfold tgO
      split
      · simp_all
      · simp_all
        rw [ap_bnd]
        unfold flF
        congr 1
@[simp] theorem ap_tgN : tgN i d Γ = if i < Γ.length then some (Γ.set i (.val d)) else none := (rfl)
@[simp] theorem ap_tgT {is : List Nat} {ds : List D} : tgT is (.tuple ds) Γ = tgNs is ds Γ := (rfl)
@[simp] theorem ap_tgNs0 : tgNs [] [] Γ = some Γ := (rfl)
@[simp] theorem ap_tgNs {is : List Nat} {ds : List D} : tgNs (i :: is) (d :: ds) Γ = oB (tgN i d Γ) (tgNs is ds) := by
  first
    | exact Eq.trans rfl rfl
    | show Option.bind _ _ = _
      cases tgN i d Γ <;> rfl
def unO : Option En → Rs Fl
  | some Γ => .ok .nx Γ
  | none => .bad
@[simp] theorem unO_some : unO (some Γ) = .ok .nx Γ := (rfl)
@[simp] theorem ap_sUnp {tg : Tg} : sUnp tg f Γ = (f Γ).and fun r Γ => (stD r Γ).and fun d Γ => unO (tg d Γ) := by
  first
    | exact Eq.trans rfl rfl
    | unfold sUnp unO
      rw [ap_bnd]
      congr 1
def apB (i : Nat) (d : D) (Γ : En) : Option Sl → Rs R
  | some (.own kk (.lst ds)) => if ds.length < 1000000 then .ok (.val .none) (Γ.set i (.own kk (.lst (ds ++ [d])))) else .bad
  | _ => .bad
@[simp] theorem apB_lst {kk : Option Nat} {ds : List D} : apB i d Γ (some (.own kk (.lst ds))) = if ds.length < 1000000 then .ok (.val .none) (Γ.set i (.own kk (.lst (ds ++ [d])))) else .bad := (rfl)
def apG (i : Nat) (f : M R) (Γ : En) : Option Sl → Rs R
  | some (.own _ (.lst _)) => (f Γ).and fun r Γ => (stD r Γ).and fun d Γ => apB i d Γ Γ[i]?
  | _ => .bad
@[simp] theorem apG_lst {kk : Option Nat} {ds : List D} : apG i f Γ (some (.own kk (.lst ds))) = (f Γ).and fun r Γ => (stD r Γ).and fun d Γ => apB i d Γ Γ[i]? := (rfl)
@[simp] theorem ap_appM : appM i f Γ = apG i f Γ Γ[i]? := by
  first
    | exact Eq.trans rfl rfl
    | unfold appM apG apB
      split
      · rename_i kk ds h
        simp only [h]
        rw [ap_bnd]
        congr 1
      · split
        · simp_all
        · rfl
def agL (i : Nat) (Γ : En) : Option Sl → Option D → Rs Fl
  | some (.own kk (.lst ds)), some (.list es) => if ds.length + es.length ≤ 1000000 then .ok .nx (Γ.set i (.own kk (.lst (ds ++ es)))) else .bad
  | _, _ => .bad
@[simp] theorem agL_ok {kk : Option Nat} {ds es : List D} : agL i Γ (some (.own kk (.lst ds))) (some (.list es)) = if ds.length + es.length ≤ 1000000 then .ok .nx (Γ.set i (.own kk (.lst (ds ++ es)))) else .bad := (rfl)
def agI (i : Nat) (Γ : En) : Option Sl → Option D → Rs Fl
  | some (.val (.int n)), some (.int j) => .ok .nx (Γ.set i (.val (.int (n + j))))
  | _, _ => .bad
@[simp] theorem agI_ok {n j : Int} : agI i Γ (some (.val (.int n))) (some (.int j)) = .ok .nx (Γ.set i (.val (.int (n + j)))) := (rfl)
def agG (i : Nat) (f : M R) (Γ : En) : Option Sl → Rs Fl
  | some (.val (.int _)) => (f Γ).and fun r Γ => agI i Γ Γ[i]? (rdD Γ r)
  | some (.own _ (.lst _)) => (f Γ).and fun r Γ => (hold r Γ).and fun r Γ => agL i Γ Γ[i]? (rdD Γ r)
  | _ => .bad
@[simp] theorem agG_int {n : Int} : agG i f Γ (some (.val (.int n))) = (f Γ).and fun r Γ => agI i Γ Γ[i]? (rdD Γ r) := (rfl)
@[simp] theorem agG_lst {kk : Option Nat} {ds : List D} : agG i f Γ (some (.own kk (.lst ds))) = (f Γ).and fun r Γ => (hold r Γ).and fun r Γ => agL i Γ Γ[i]? (rdD Γ r) := (rfl)
@[simp] theorem ap_augM : augM i f Γ = agG i f Γ Γ[i]? := by
  first
    | exact Eq.trans rfl rfl
    | unfold augM agG
      split
      · rename_i h
        simp only [h]
        rw [ap_bnd]
        congr 1
      · rename_i h
        simp only [h]
        rw [ap_bnd]
        congr 1
      · split <;> simp_all
def finF : Rs Fl → Rs R
  | .ok (.ret r) Γ' => .ok r Γ'
  | .ok .nx Γ' => .ok (.val .none) Γ'
  | _ => .bad
@[simp] theorem finF_ret : finF (.ok (.ret r) Γ) = .ok r Γ := (rfl)
@[simp] theorem finF_nx : finF (.ok .nx Γ) = .ok (.val .none) Γ := (rfl)
theorem ap_fnP {m : Nat} : fnP a m Γ = finF (a (Γ ++ List.replicate m .un)) := by
  first
    | exact Eq.trans rfl rfl
    | unfold fnP fnM noX finF
      cases h : a (Γ ++ List.replicate m .un) with
      | ok x g => cases x <;> simp [h]
      | exc c g => simp [h]
      | bad => simp [h]
def finX : Rs Fl → Rs R
  | .ok (.ret r) Γ' => .ok r Γ'
  | .ok .nx Γ' => .ok (.val .none) Γ'
  | .exc n Γ' => .exc n Γ'
  | _ => .bad
@[simp] theorem finX_ret : finX (.ok (.ret r) Γ) = .ok r Γ := (rfl)
@[simp] theorem finX_nx : finX (.ok .nx Γ) = .ok (.val .none) Γ := (rfl)
@[simp] theorem finX_exc {n : Nat} : finX (.exc n Γ) = .exc n Γ := (rfl)
theorem ap_fnX {m : Nat} : fnX a m Γ = finX (a (Γ ++ List.replicate m .un)) := by
  first
    | exact Eq.trans rfl rfl
    | unfold fnX fnM finX
      cases h : a (Γ ++ List.replicate m .un) with
      | ok x g => cases x <;> simp [h]
      | exc c g => simp [h]
      | bad => simp [h]
@[simp] theorem ap_sRaise {n : Nat} : sRaise n Γ = .exc n Γ := (rfl)
@[simp] theorem retV_exc {n : Nat} {g : En} : retV (.exc n g) Γ = .exc n Γ := (rfl)
def tryO (i j : Nat) : Rs Fl → Rs Fl
  | .exc n Γ' => if n < 5 ∧ i < Γ'.length ∧ j < Γ'.length ∧ i ≠ j then .ok .nx ((Γ'.set i .un).set j (.own none (.exc n))) else .bad
  | x => x
@[simp] theorem tryO_ok {i j : Nat} {x : Fl} : tryO i j (.ok x Γ) = .ok x Γ := (rfl)
@[simp] theorem tryO_exc {i j n : Nat} : tryO i j (.exc n Γ) = if n < 5 ∧ i < Γ.length ∧ j < Γ.length ∧ i ≠ j then .ok .nx ((Γ.set i .un).set j (.own none (.exc n))) else .bad := (rfl)
@[simp] theorem ap_sTry {i j : Nat} : sTry a i j Γ = tryO i j (a Γ) := by
  first
    | exact Eq.trans rfl rfl
    | unfold sTry tryO
      cases a Γ <;> rfl
def isXO (t : Nat → Bool) (Γ : En) : Option Sl → Rs R
  | some (.own _ (.exc n)) => if n < 5 then .ok (.val (.bool (t n))) Γ else .bad
  | _ => .bad
@[simp] theorem isXO_exc {t : Nat → Bool} {kk : Option Nat} {n : Nat} : isXO t Γ (some (.own kk (.exc n))) = if n < 5 then .ok (.val (.bool (t n))) Γ else .bad := (rfl)
@[simp] theorem ap_isX {t : Nat → Bool} : isX i t Γ = isXO t Γ Γ[i]? := by
  first
    | exact Eq.trans rfl rfl
    | unfold isX isXO
      split <;> rfl
def nonO (Γ : En) : Option Sl → Rs Bool
  | some (.val d) => .ok (isNn d) Γ
  | some (.own _ (.exc _)) => .ok false Γ
  | _ => .bad
@[simp] theorem nonO_val : nonO Γ (some (.val d)) = .ok (isNn d) Γ := (rfl)
@[simp] theorem nonO_exc {kk : Option Nat} {n : Nat} : nonO Γ (some (.own kk (.exc n))) = .ok false Γ := (rfl)
@[simp] theorem ap_nonM : nonM i Γ = nonO Γ Γ[i]? := by
  first
    | exact Eq.trans rfl rfl
    | unfold nonM nonO
      split <;> rfl
@[simp] theorem isNn_none : isNn .none = true := (rfl)
@[simp] theorem dGt_int {i j : Int} : dGt (.int i) (.int j) = some (.val (.bool (decide (j < i)))) := (rfl)
@[simp] theorem dGe_int {i j : Int} : dGe (.int i) (.int j) = some (.val (.bool (decide (j ≤ i)))) := (rfl)
@[simp] theorem dLt_int {i j : Int} : dLt (.int i) (.int j) = some (.val (.bool (decide (i < j)))) := (rfl)
@[simp] theorem dLe_int {i j : Int} : dLe (.int i) (.int j) = some (.val (.bool (decide (i ≤ j)))) := (rfl)
@[simp] theorem dAdd_int {i j : Int} : dAdd (.int i) (.int j) = some (.val (.int (i + j))) := (rfl)
@[simp] theorem dSub_int {i j : Int} : dSub (.int i) (.int j) = some (.val (.int (i - j))) := (rfl)
@[simp] theorem dEq_int {i j : Int} : dEq (.int i) (.int j) = some (.val (.bool (i == j))) := (rfl)
@[simp] theorem dNe_int {i j : Int} : dNe (.int i) (.int j) = some (.val (.bool !(i == j))) := (rfl)
@[simp] theorem dEq_str {i j : Str} : dEq (.str i) (.str j) = some (.val (.bool (i == j))) := (rfl)
@[simp] theorem dNe_str {i j : Str} : dNe (.str i) (.str j) = some (.val (.bool !(i == j))) := (rfl)
@[simp] theorem dLen_list {ds : List D} : dLen [.list ds] = some (.val (.int ds.length)) := (rfl)
@[simp] theorem dLen_tup {ds : List D} : dLen [.tuple ds] = some (.val (.int ds.length)) := (rfl)
@[simp] theorem rdAll_cons {rs : List R} : rdAll Γ (r :: rs) = oB (rdD Γ r) fun d => oB (rdAll Γ rs) fun ds => some (d :: ds) := by
  first
    | exact Eq.trans rfl rfl
    | cases h : rdD Γ r <;> cases h' : rdAll Γ rs <;> simp [rdAll, h, h']
@[simp] theorem dAdd_list {ds es : List D} : dAdd (.list ds) (.list es) = if ds.length + es.length ≤ 1000000 then some (.own (.lst (ds ++ es))) else none := by
  first
    | exact Eq.trans rfl rfl
    | simp only [dAdd, dAddI, dI, dAddS, dAddL]
      split <;> rename_i h <;> split at h <;> simp_all [dAddT]
@[simp] theorem dAdd_str {x y : Str} : dAdd (.str x) (.str y) = if x.length + y.length ≤ 1000000 then some (.val (.str (x ++ y))) else none := by
  first
    | exact Eq.trans rfl rfl
    | simp only [dAdd, dAddI, dI, dAddS, dAddL]
      split <;> rename_i h <;> split at h <;> simp_all [dAddT]
@[simp] theorem dIx_list {ds : List D} {n : Int} : dIx (.list ds) (.int n) = (atI ds n).map .val := (rfl)
@[simp] theorem dIx_tup {ds : List D} {n : Int} : dIx (.tuple ds) (.int n) = (atI ds n).map .val := (rfl)
@[simp] theorem ap_noI : noI Γ = .ok none Γ := (rfl)
def soO (Γ : En) : Option D → Rs (Option Int)
  | some (.int i) => .ok (some i) Γ
  | _ => .bad
@[simp] theorem soO_int {n : Int} : soO Γ (some (.int n)) = .ok (some n) Γ := (rfl)
@[simp] theorem ap_soI : soI f Γ = (f Γ).and fun r Γ => soO Γ (rdD Γ r) := by
  first
    | exact Eq.trans rfl rfl
    | unfold soI soO
      rw [ap_bnd]
      congr 1
@[simp] theorem ap_slc {lo hi : M (Option Int)} : slc f lo hi Γ = (f Γ).and fun r Γ => (hold r Γ).and fun r Γ => (lo Γ).and fun l Γ => (hi Γ).and fun h Γ => oOk Γ (oB (rdD Γ r) fun d => dSl d l h) := by
  first
    | exact Eq.trans rfl rfl
    | unfold slc oOk
      rw [ap_bnd]
      congr 1
      funext r Γ
      rw [ap_bnd]
      congr 1
      funext r Γ
      rw [ap_bnd]
      congr 1
      funext l Γ
      rw [ap_bnd]
      congr 1
      funext h Γ
      cases rdD Γ r <;> simp
      all_goals (split <;> simp_all)
@[simp] theorem ap_sSet : sSet f Γ = (f Γ).and fun r Γ => un1 (fun d => match d with
  | .list ds => (match intsOf ds with
    | some ns => if small16 ns then some (.own (.lst ((uS ns).map PyData.int))) else none
    | none => none)
  | _ => none) r Γ := (rfl)
@[simp] theorem ap_neg {d : D} : (M.bnd (eC d) fun r => un1 dNeg r) Γ = oOk Γ (dNeg d) := by
  first
    | exact Eq.trans rfl rfl
    | rw [ap_bnd]
      simp
end
end Rt
namespace Rt
open PySem PySem.Spec PyProof.Rows L2
def items110 : List Itm := [(1, 1, 1), (1, 2, 1), (1, 3, 1), (1, 3, 2), (1, 4, 1), (1, 4, 3), (1, 5, 1), (1, 5, 2), (1, 5, 4), (1, 6, 1), (1, 6, 5), (1, 7, 1), (1, 7, 2), (1, 7, 3), (1, 7, 6), (1, 8, 1), (1, 8, 7), (1, 9, 1), (1, 9, 2), (1, 9, 4), (1, 9, 8), (1, 10, 1), (1, 10, 3), (1, 10, 9), (2, 2, 1), (2, 3, 1), (2, 4, 1), (2, 4, 2), (2, 5, 1), (2, 5, 3), (2, 6, 1), (2, 6, 2), (2, 6, 4), (2, 7, 1), (2, 7, 5), (2, 8, 1), (2, 8, 2), (2, 8, 3), (2, 8, 6), (2, 9, 1), (2, 9, 7), (2, 10, 1), (2, 10, 2), (2, 10, 4), (2, 10, 8), (3, 3, 1), (3, 4, 1), (3, 5, 1), (3, 5, 2), (3, 6, 1), (3, 6, 3), (3, 7, 1), (3, 7, 2), (3, 7, 4), (3, 8, 1), (3, 8, 5), (3, 9, 1), (3, 9, 2), (3, 9, 3), (3, 9, 6), (3, 10, 1), (3, 10, 7), (4, 4, 1), (4, 5, 1), (4, 6, 1), (4, 6, 2), (4, 7, 1), (4, 7, 3), (4, 8, 1), (4, 8, 2), (4, 8, 4), (4, 9, 1), (4, 9, 5), (4, 10, 1), (4, 10, 2), (4, 10, 3), (4, 10, 6), (5, 5, 1), (5, 6, 1), (5, 7, 1), (5, 7, 2), (5, 8, 1), (5, 8, 3), (5, 9, 1), (5, 9, 2), (5, 9, 4), (5, 10, 1), (5, 10, 5), (6, 6, 1), (6, 7, 1), (6, 8, 1), (6, 8, 2), (6, 9, 1), (6, 9, 3), (6, 10, 1), (6, 10, 2), (6, 10, 4), (7, 7, 1), (7, 8, 1), (7, 9, 1), (7, 9, 2), (7, 10, 1), (7, 10, 3), (8, 8, 1), (8, 9, 1), (8, 10, 1), (8, 10, 2), (9, 9, 1), (9, 10, 1), (10, 10, 1)]
/-! ### calls, evaluated -/
def vOf (x : Rs R) : Option R := match x with
  | .ok (.val d) _ => some (.val d)
  | .ok (.own o) _ => some (.own o)
  | _ => none
theorem retV_of {x : Rs R} {r : R} (h : vOf x = some r) (Γ : En) : retV x Γ = .ok r Γ := by
  unfold vOf at h
  split at h
  · cases h; rfl
  · cases h; rfl
  · cases h
theorem vOf_ok {x : Rs R} {r : R} {Γ : En} (h : x = .ok r Γ) (hr : ∀ i, r ≠ .bor i) : vOf x = some r := by
  subst h
  cases r with
  | val d => rfl
  | own o => rfl
  | bor i => exact absurd rfl (hr i)
theorem call1 {g : En → Rs R} {f : M R} {Γ Γ1 Γ2 : En} {q r : R} {d : D} (h1 : f Γ = .ok q Γ1) (h2 : stD q Γ1 = .ok d Γ2) (h3 : vOf (g [.val d]) = some r) : callV 1 g (aLast (sto f)) Γ = .ok r Γ2 := by
  unfold callV aLast sto stR
  simp only [M.bnd, h1, h2, M.ret, M.ofO, valsOf, Option.map, slV, List.map, List.length_cons, List.length_nil]
  exact retV_of h3 Γ2
theorem call2 {g : En → Rs R} {f f' : M R} {Γ Γ1 Γ2 Γ3 Γ4 : En} {q q' r : R} {d d' : D} (h1 : f Γ = .ok q Γ1) (h2 : stD q Γ1 = .ok d Γ2) (h3 : f' Γ2 = .ok q' Γ3) (h4 : stD q' Γ3 = .ok d' Γ4) (h5 : vOf (g [.val d, .val d']) = some r) :
    callV 2 g (aCons (sto f) (aLast (sto f'))) Γ = .ok r Γ4 := by
  unfold callV aLast sto stR aCons
  simp only [M.bnd, h1, h2, h3, h4, M.ret, M.ofO, hold, valsOf, Option.map, slV, List.map, List.length_cons, List.length_nil]
  exact retV_of h5 Γ4
/-! ### over a finite list -/
theorem all_of {α β : Type} {l : List α} {f g : α → β} (h : l.map f = l.map g) : ∀ a ∈ l, f a = g a := List.map_inj_left.mp h
def wd (i : Itm) : Str := match g_L_word [.val (iD i)] with
  | .ok (.val (.str s)) _ => s
  | _ => Str.empty
def ten : List Int := [1, 2, 3, 4, 5, 6, 7, 8, 9, 10]
def nums (i : Itm) : List Int := ten.filter fun n => decide (i.1 ≤ n) && decide (n ≤ i.2.1) && decide ((n - i.1) % i.2.2 = 0)
theorem F_items : vOf (g_L_items []) = some (.own (.lst (items110.map iD))) := by kernel_rfl
theorem F_word : ∀ i ∈ items110, vOf (g_L_word [.val (iD i)]) = some (.val (.str (wd i))) := all_of (by kernel_rfl)
theorem F_text_of : ∀ i ∈ items110, vOf (g_text_of [.val (iD i)]) = some (.val (.str (wd i))) := all_of (by kernel_rfl)
theorem F_numbers : ∀ i ∈ items110, vOf (g_L_numbers [.val (iD i)]) = some (.own (.lst ((nums i).map .int))) := all_of (by kernel_rfl)
theorem F_numbers_of : ∀ i ∈ items110, vOf (g_numbers_of [.val (iD i)]) = some (.own (.lst ((nums i).map .int))) := all_of (by kernel_rfl)
theorem F_item_in : ∀ i ∈ items110, vOf (g_item_in [.val (.str (wd i))]) = some (.val (iD i)) := all_of (by kernel_rfl)
theorem F_comma : ∀ i ∈ items110, 44 ∉ TL.tl (wd i) := by decide +kernel
theorem F_wlen : ∀ i ∈ items110, (wd i).length ≤ 8 := by decide +kernel
end Rt
namespace Rt
open PySem PySem.Spec PyProof.Rows L2
theorem io2 {g : En → Rs R} {f : M R} {Γ Γ0 Γ1 Γ' : En} {i : Nat} {kk : Option Nat} {o o' : Ob} {q r : R} {d : D} (hi : Γ[i]? = some (.own kk o)) (h1 : f Γ = .ok q Γ0) (h2 : stD q Γ0 = .ok d Γ1) (h3 : Γ1[i]? = some (.own kk o))
    (hg : g [.own (some 0) o, .val d] = .ok r Γ') (h4 : Γ'[0]? = some (.own (some 0) o')) (hr : ∀ j, r ≠ .bor j) : callIO 2 g (aCons (eVar i) (aLast (sto f))) Γ = .ok r (Γ1.set i (.own kk o')) := by
  unfold callIO aCons aLast sto stR eVar
  simp only [M.bnd, hi, hold, M.ret, h1, h2, argIO, h3, valsOf, Option.map, slV, List.map, List.length_cons, List.length_nil]
  unfold retIO
  simp only [if_pos, hg]
  cases r with
  | val d => simp only [afterIO, h3, h4, if_pos]
  | own o => simp only [afterIO, h3, h4, if_pos]
  | bor j => exact absurd rfl (hr j)
theorem draw_ok {ns : List Int} {n : Int} (m : Int) (h0 : 0 < ns.length) (h1 : ns.length ≤ 63) (hm : 0 < m) (hm' : m < 1000000) :
    g_L_draw [.own (some 0) (.drw ns n), .val (.int m)] = .ok (.val (.int (drawV ns n m))) [.own (some 0) (.drw (drawN ns n m) (n + 1)), .val (.int m)] := by
  have e : drawOk ns m = true := by simp [drawOk, h0, h1, hm, hm']
  unfold g_L_draw
  simp only [e, if_true]
theorem at_nat {α : Type} {xs : List α} {k : Nat} (h : k < xs.length) : atI xs (k : Int) = some xs[k] := by
  have e : ixN xs.length (k : Int) = some k := by
    unfold ixN
    rw [if_pos (by omega), if_pos (by omega)]
    simp
  unfold atI
  rw [e]
  simp [h]
theorem pick_ok {ns : List Int} {n : Int} {ds : List D} (h0 : 0 < ns.length) (h1 : ns.length ≤ 63) (hd : ds ≠ []) (hl : ds.length < 1000000) :
    ∃ d ∈ ds, ∃ ns' : List Int, ns'.length = ns.length ∧ g_L_pick [.own (some 0) (.drw ns n), .val (.list ds)] = .ok (.val d) [.own (some 0) (.drw ns' (n + 1)), .val (.list ds)] := by
  have hp : 0 < (ds.length : Int) := by
    have := List.length_pos_iff.mpr hd
    omega
  have lo := drawV_lo (ns := ns) (n := n) hp
  have hi := drawV_hi (ns := ns) (n := n) hp
  generalize hv : drawV ns n (ds.length : Int) = v at lo hi
  obtain ⟨k, rfl⟩ := Int.eq_ofNat_of_zero_le lo
  have hk : k < ds.length := by omega
  refine ⟨ds[k], List.getElem_mem hk, drawN ns n ds.length, drawN_length .., ?_⟩
  have e := io2 (g := g_L_draw) (f := callD dLen (aLast (eVar 1))) (Γ := [.own (some 0) (.drw ns n), .val (.list ds)]) (i := 0) rfl (Γ0 := [.own (some 0) (.drw ns n), .val (.list ds)]) (q := .val (.int ds.length)) rfl rfl rfl (draw_ok ds.length h0 h1 hp (by omega)) rfl (fun _ => nofun)
  unfold g_L_pick m_L_pick
  simp [ap_fnP, ap_fnX, e, hv, at_nat hk]
def subsL : List Int → List (List Int)
  | [] => [[]]
  | x :: xs => (subsL xs).map (x :: ·) ++ subsL xs
theorem subs_nil : ∀ l : List Int, [] ∈ subsL l
  | [] => by simp [subsL]
  | x :: xs => by simp [subsL, subs_nil xs]
theorem subs_filter (p : Int → Bool) : ∀ l : List Int, l.filter p ∈ subsL l
  | [] => by simp [subsL]
  | x :: xs => by
    have := subs_filter p xs
    by_cases h : p x = true <;> simp [subsL, h, this]
theorem subs_single : ∀ (l : List Int) (x : Int), x ∈ l → [x] ∈ subsL l
  | y :: l, x, h => by
    rcases List.mem_cons.mp h with rfl | h
    · simp [subsL, subs_nil]
    · simp [subsL, subs_single l x h]
/-- the numbers 1 .. m -/
def upto (m : Nat) : List Int := (List.range m).map fun i => 1 + ((i : Nat) : Int)
def setsTo (m : Nat) : List (List Int) := (subsL (upto m)).filter fun S => !S.isEmpty
theorem set_loop (m wide : Int) (hw : 0 < wide) (hw' : wide < 1000000) : ∀ (xs : List Int) (acc : List Int) (ns : List Int) (n : Int) (z : Sl), acc.length + xs.length < 1000000 → 0 < ns.length → ns.length ≤ 63 →
    ∃ s ∈ subsL xs, ∃ (ns' : List Int) (n' : Int) (z' : Sl), ns'.length = ns.length ∧
      forL (tgN 4) (sIf (tst (bin dGt (callIO 2 g_L_draw (aCons (eVar 0) (aLast (sto (eVar 3))))) (eC (.int 0)))) (sDrop (appM 2 (eVar 4))) (sNx)) (xs.map .int) [.own (some 0) (.drw ns n), .val (.int m), .own none (.lst (acc.map .int)), .val (.int wide), z] =
        .ok .nx [.own (some 0) (.drw ns' n'), .val (.int m), .own none (.lst ((acc ++ s).map .int)), .val (.int wide), z']
  | [], acc, ns, n, z, ha, h0, h1 => ⟨[], by simp [subsL], ns, n, z, rfl, by simp⟩
  | x :: xs, acc, ns, n, z, ha, h0, h1 => by
    have ha1 : acc.length + (xs.length + 1) < 1000000 := by simpa using ha
    have ha : acc.length < 1000000 := by omega
    have e := io2 (g := g_L_draw) (f := eVar 3) (Γ := [.own (some 0) (.drw ns n), .val (.int m), .own none (.lst (acc.map .int)), .val (.int wide), .val (.int x)]) (i := 0) rfl (Γ0 := [.own (some 0) (.drw ns n), .val (.int m), .own none (.lst (acc.map .int)), .val (.int wide), .val (.int x)]) (q := .bor 3) rfl rfl rfl (draw_ok wide h0 h1 hw hw') rfl (fun _ => nofun)
    by_cases hv : 0 < drawV ns n wide
    · obtain ⟨s, hs, ns', n', z', hl, q⟩ := set_loop m wide hw hw' xs (acc ++ [x]) (drawN ns n wide) (n + 1) (.val (.int x)) (by simp; omega) (by rw [drawN_length]; exact h0) (by rw [drawN_length]; exact h1)
      refine ⟨x :: s, by simp [subsL, hs], ns', n', z', by rw [hl, drawN_length], ?_⟩
      simp only [List.map_append, List.map_cons, List.map_nil] at q
      rw [List.map_cons, for_cons]
      simp [e, hv, ha]
      rw [q]
      simp
    · obtain ⟨s, hs, ns', n', z', hl, q⟩ := set_loop m wide hw hw' xs acc (drawN ns n wide) (n + 1) (.val (.int x)) (by omega) (by rw [drawN_length]; exact h0) (by rw [drawN_length]; exact h1)
      refine ⟨s, by simp [subsL, hs], ns', n', z', by rw [hl, drawN_length], ?_⟩
      rw [List.map_cons, for_cons]
      simp [e, hv]
      rw [q]
      simp
theorem rg_upto (m : Nat) (hm' : m < 1000) : rg2 [.int 1, .int ((m : Int) + 1)] = some ((upto m).map PyData.int) := by
  have er : rngL 1 m = (upto m).map PyData.int := by simp [rngL, upto, Function.comp_def]
  have h1 : small62 1 = true := by decide
  have h2 : small62 ((m : Int) + 1) = true := by
    unfold small62
    rw [decide_eq_true (by omega), decide_eq_true (by omega)]
    rfl
  have h3 : (((m : Int) + 1) - 1).toNat = m := by omega
  simp only [rg2, h1, h2, Bool.and_self, if_true, h3, er]
theorem upto_len (m : Nat) : (upto m).length = m := by simp [upto]
theorem pick3 {ns : List Int} {n : Int} (h0 : 0 < ns.length) (h1 : ns.length ≤ 63) (m : Int) : ∃ (w : Int) (ns1 : List Int), 0 < w ∧ w < 1000000 ∧ ns1.length = ns.length ∧ callIO 2 g_L_pick (aCons (eVar 0) (aLast (sto (mkLst (aCons (sto (eC (.int 2))) (aCons (sto (eC (.int 2))) (aLast (sto (eC (.int 4)))))))))) [.own (some 0) (.drw ns n), .val (.int m), .own none (.lst []), .un, .un] =
    .ok (.val (.int w)) [.own (some 0) (.drw ns1 (n + 1)), .val (.int m), .own none (.lst []), .un, .un] := by
  obtain ⟨d, hd, ns1, hl1, e1⟩ := pick_ok (ns := ns) (n := n) (ds := [.int 2, .int 2, .int 4]) h0 h1 (by simp) (by simp)
  have : ∃ w : Int, d = .int w ∧ 0 < w ∧ w < 1000000 := by
    simp at hd
    rcases hd with rfl | rfl <;> exact ⟨_, rfl, by omega, by omega⟩
  obtain ⟨w, rfl, hw, hw'⟩ := this
  exact ⟨w, ns1, hw, hw', hl1, io2 (g := g_L_pick) (Γ0 := [.own (some 0) (.drw ns n), .val (.int m), .own none (.lst []), .un, .un]) (q := .own (.lst [.int 2, .int 2, .int 4])) rfl (by simp) rfl rfl e1 rfl (fun _ => nofun)⟩
theorem set_ok {ns : List Int} {n : Int} (m : Nat) (hm : 0 < m) (hm' : m < 1000) (h0 : 0 < ns.length) (h1 : ns.length ≤ 63) :
    ∃ S ∈ setsTo m, ∃ (ns' : List Int) (n' : Int) (Γ' : En), ns'.length = ns.length ∧ g_L_set [.own (some 0) (.drw ns n), .val (.int m)] = .ok (.own (.lst (S.map .int))) Γ' ∧ Γ'[0]? = some (.own (some 0) (.drw ns' n')) := by
  obtain ⟨w, ns1, hw, hw', hl1, e⟩ := pick3 (n := n) h0 h1 (m : Int)
  obtain ⟨s, hs, ns2, n2, z2, hl2, e2⟩ := set_loop m w hw hw' (upto m) [] ns1 (n + 1) .un (by rw [upto_len]; simp; omega) (by omega) (by omega)
  have hr := rg_upto m hm'
  have hb : ∀ r Γ', (sRet (vIf (tst (bin dNe (eVar 2) (mkLst (aNil)))) (eVar 2) (mkLst (aLast (sto (bin dAdd (eC (.int 1)) (callIO 2 g_L_draw (aCons (eVar 0) (aLast (sto (eVar 1))))))))))) [.own (some 0) (.drw ns2 n2), .val (.int m), .own none (.lst (s.map .int)), .val (.int w), z2] = .ok (.ret r) Γ' →
      g_L_set [.own (some 0) (.drw ns n), .val (.int m)] = .ok r Γ' := by
    intro r Γ' h
    simp only [List.map_nil, List.nil_append] at e2
    unfold g_L_set m_L_set
    simp [ap_fnP, ap_fnX, e, hr, e2, h, -ap_sRet]
  by_cases hz : s = []
  · subst hz
    have hp : 0 < (m : Int) := by omega
    have lo := drawV_lo (ns := ns2) (n := n2) hp
    have hi := drawV_hi (ns := ns2) (n := n2) hp
    have e3 := io2 (g := g_L_draw) (f := eVar 1) (Γ := [.own (some 0) (.drw ns2 n2), .val (.int m), .own none (.lst []), .val (.int w), z2]) (i := 0) rfl (Γ0 := [.own (some 0) (.drw ns2 n2), .val (.int m), .own none (.lst []), .val (.int w), z2]) (q := .bor 1) rfl rfl rfl (draw_ok (m : Int) (by omega) (by omega) hp (by omega)) rfl (fun _ => nofun)
    refine ⟨[1 + drawV ns2 n2 m], ?_, drawN ns2 n2 m, n2 + 1, [.own (some 0) (.drw (drawN ns2 n2 m) (n2 + 1)), .val (.int m), .own none (.lst []), .val (.int w), z2], ?_, hb _ _ ?_, rfl⟩
    · unfold setsTo
      refine List.mem_filter.mpr ⟨subs_single _ _ ?_, rfl⟩
      unfold upto
      refine List.mem_map.mpr ⟨(drawV ns2 n2 m).toNat, List.mem_range.mpr (by omega), by omega⟩
    · rw [drawN_length]; omega
    · simp [ne_nil_nil, e3]
  · refine ⟨s, ?_, ns2, n2, [.own (some 0) (.drw ns2 n2), .val (.int m), .un, .val (.int w), z2], ?_, hb _ _ ?_, rfl⟩
    · unfold setsTo
      exact List.mem_filter.mpr ⟨hs, by cases s with | nil => exact absurd rfl hz | cons a b => rfl⟩
    · omega
    · simp [ne_nil_int, hz]
end Rt
namespace Rt
open PySem PySem.Spec PyProof.Rows L2
/-! ### drawn texts -/
theorem rg1_nat (k : Nat) (h : k < 1000000) : rg1 [.int (k : Int)] = some (rngL 0 k) := by
  have h2 : small62 (k : Int) = true := by
    unfold small62
    rw [decide_eq_true (by omega), decide_eq_true (by omega)]
    rfl
  simp only [rg1, h2, if_true, Int.toNat_natCast]
theorem rngL_len (a : Int) (k : Nat) : (rngL a k).length = k := by simp [rngL]
theorem text_loop (m : Int) : ∀ (ks : List D) (acc : List Itm) (ns : List Int) (n : Int) (y z : Sl), (y = .val (di items110) ∨ y = .own none (.lst (items110.map iD))) → acc.length + ks.length < 1000000 → 0 < ns.length → ns.length ≤ 63 →
    ∃ its : List Itm, (∀ i ∈ its, i ∈ items110) ∧ its.length = ks.length ∧ ∃ (ns' : List Int) (n' : Int) (y' z' : Sl), ns'.length = ns.length ∧
      lcL (tgN 3) (M.ret true) (callIO 2 g_L_pick (aCons (eVar 0) (aLast (sto (eVar 2))))) [3] ks (acc.map iD) [.own (some 0) (.drw ns n), .val (.int m), y, z] =
        .ok ((acc ++ its).map iD) [.own (some 0) (.drw ns' n'), .val (.int m), y', z']
  | [], acc, ns, n, y, z, hy, _, h0, h1 => ⟨[], by simp, rfl, ns, n, y, z, rfl, by simp [lcL]⟩
  | k :: ks, acc, ns, n, y, z, hy, hl, h0, h1 => by
    obtain ⟨d, hd, ns1, hl1, e1⟩ := pick_ok (ns := ns) (n := n) (ds := items110.map iD) h0 h1 (by decide) (by simp [items110])
    obtain ⟨it, hit, rfl⟩ := List.mem_map.mp hd
    have hl : acc.length + (ks.length + 1) < 1000000 := by simpa using hl
    have e : callIO 2 g_L_pick (aCons (eVar 0) (aLast (sto (eVar 2)))) [.own (some 0) (.drw ns n), .val (.int m), y, .val k] = .ok (.val (iD it)) [.own (some 0) (.drw ns1 (n + 1)), .val (.int m), .val (di items110), .val k] := by
      rcases hy with rfl | rfl
      · exact io2 (g := g_L_pick) (i := 0) (kk := some 0) (Γ0 := [.own (some 0) (.drw ns n), .val (.int m), .val (di items110), .val k]) (q := .bor 2) rfl rfl rfl rfl e1 rfl (fun _ => nofun)
      · exact io2 (g := g_L_pick) (i := 0) (kk := some 0) (Γ0 := [.own (some 0) (.drw ns n), .val (.int m), .own none (.lst (items110.map iD)), .val k]) (q := .bor 2) rfl rfl rfl rfl e1 rfl (fun _ => nofun)
    obtain ⟨its, h2, h3, ns2, n2, y2, z2, hl2, e2⟩ := text_loop m ks (acc ++ [it]) ns1 (n + 1) (.val (di items110)) (.val k) (.inl rfl) (by simp; omega) (by omega) (by omega)
    refine ⟨it :: its, ?_, by simp [h3], ns2, n2, y2, z2, by omega, ?_⟩
    · intro i hi
      rcases List.mem_cons.mp hi with rfl | hi
      · exact hit
      · exact h2 i hi
    · simp only [List.map_append, List.map_cons, List.map_nil] at e2
      simp only [lcL, wipeE]
      simp [ap_bnd, e]
      rw [if_pos (by omega), e2]
      simp
theorem text_ok {ns : List Int} {n : Int} (m : Nat) (hm : 0 < m) (hm' : m < 1000) (h0 : 0 < ns.length) (h1 : ns.length ≤ 63) :
    ∃ its : List Itm, (∀ i ∈ its, i ∈ items110) ∧ 0 < its.length ∧ its.length ≤ m ∧ ∃ (ns' : List Int) (n' : Int) (Γ' : En), ns'.length = ns.length ∧ g_L_text [.own (some 0) (.drw ns n), .val (.int m)] = .ok (.own (.lst (its.map iD))) Γ' ∧ Γ'[0]? = some (.own (some 0) (.drw ns' n')) := by
  have hp : 0 < (m : Int) := by omega
  have lo := drawV_lo (ns := ns) (n := n) hp
  have hi := drawV_hi (ns := ns) (n := n) hp
  have e3 := io2 (g := g_L_draw) (f := eVar 1) (Γ := [.own (some 0) (.drw ns n), .val (.int m), .val (di items110), .un]) (i := 0) rfl (Γ0 := [.own (some 0) (.drw ns n), .val (.int m), .val (di items110), .un]) (q := .bor 1) rfl rfl rfl (draw_ok (m : Int) (by omega) (by omega) hp (by omega)) rfl (fun _ => nofun)
  obtain ⟨k, hk⟩ := Int.eq_ofNat_of_zero_le lo
  have hk1 : 1 + drawV ns n m = ((k + 1 : Nat) : Int) := by omega
  have hk2 : k + 1 ≤ m := by omega
  obtain ⟨its, h2, h3, ns2, n2, y2, z2, hl2, e2⟩ := text_loop m (rngL 0 (k + 1)) [] (drawN ns n m) (n + 1) (.val (di items110)) .un (.inl rfl) (by simp [rngL_len]; omega) (by rw [drawN_length]; exact h0) (by rw [drawN_length]; exact h1)
  rw [rngL_len] at h3
  refine ⟨its, h2, by omega, by omega, ns2, n2, [.own (some 0) (.drw ns2 n2), .val (.int m), y2, .un], by rw [hl2, drawN_length], ?_, rfl⟩
  have hr := rg1_nat (k + 1) (by omega)
  simp only [Int.natCast_add, Int.cast_ofNat_Int] at hr hk1
  have hc := retV_of F_items
  have hi : iRg rg1 (aLast (bin dAdd (eC (.int 1)) (callIO 2 g_L_draw (aCons (eVar 0) (aLast (sto (eVar 1))))))) [.own (some 0) (.drw ns n), .val (.int m), .val (di items110), .un] = .ok (rngL 0 (k + 1)) [.own (some 0) (.drw (drawN ns n m) (n + 1)), .val (.int m), .val (di items110), .un] := by
    simp [e3, hk1, hr]
  simp only [List.map_nil, List.nil_append] at e2
  have hlc : lcM (iRg rg1 (aLast (bin dAdd (eC (.int 1)) (callIO 2 g_L_draw (aCons (eVar 0) (aLast (sto (eVar 1)))))))) (tgN 3) (M.ret true) (callIO 2 g_L_pick (aCons (eVar 0) (aLast (sto (eVar 2))))) [3] [.own (some 0) (.drw ns n), .val (.int m), .val (di items110), .un] = .ok (.own (.lst (its.map iD))) [.own (some 0) (.drw ns2 n2), .val (.int m), y2, .un] := by
    unfold lcM
    rw [ap_bnd, hi, and_ok, e2]
    simp [backE]
  unfold g_L_text m_L_text
  simp [ap_fnP, ap_fnX, hc, hlc]
/-! ### texts read -/
def comma : Str := ","
def text (its : List Itm) : Str := Txt.join comma (its.map wd)
theorem split_text {its : List Itm} (h : ∀ i ∈ its, i ∈ items110) (hne : its ≠ []) : Txt.split (text its) comma = its.map wd := by
  refine TL.split_join (s := 44) (S := []) rfl (by decide +kernel) (by simpa using hne) fun p hp => ?_
  obtain ⟨i, hi, rfl⟩ := List.mem_map.mp hp
  exact F_comma i (h i hi)
theorem strsOf_map : ∀ xs : List Str, strsOf (xs.map PyData.str) = some xs
  | [] => rfl
  | x :: xs => by simp [strsOf, strsOf_map xs]
theorem sum_len {its : List Itm} (h : ∀ i ∈ its, i ∈ items110) : ((its.map wd).map (·.length)).sum ≤ 8 * its.length := by
  induction its with
  | nil => simp
  | cons a r ih =>
    have h1 := F_wlen a (h a (by simp))
    have h2 := ih fun i hi => h i (by simp [hi])
    simp only [List.map_cons, List.sum_cons, List.length_cons]
    omega
theorem join_words {its : List Itm} (h : ∀ i ∈ its, i ∈ items110) (hl : its.length ≤ 1000) : dJoin (.str comma) (.list ((its.map wd).map PyData.str)) = some (.val (.str (text its))) := by
  have h1 := sum_len h
  have hc : comma.length = 1 := rfl
  simp only [dJoin, strsOf_map]
  rw [if_pos]
  · rfl
  · rw [hc, List.length_map]
    omega
theorem text_len {its : List Itm} (h : ∀ i ∈ its, i ∈ items110) : (text its).length ≤ 9 * its.length := by
  have h1 := sum_len h
  have h2 := StrLaws.join_length_le comma (its.map wd)
  have hc : comma.length = 1 := rfl
  unfold text
  rw [TL.join_eq]
  rw [hc, List.length_map] at h2
  omega
/-! the meaning of items -/
def flat (its : List Itm) : List Int := its.flatMap nums
def meantT (its : List Itm) : List Int := ten.filter fun n => decide (n ∈ flat its)
theorem nums_ten (i : Itm) : ∀ n ∈ nums i, n ∈ ten := fun n hn => (List.mem_filter.mp hn).1
theorem flat_ten (its : List Itm) : ∀ n ∈ flat its, n ∈ ten := fun n hn => by
  obtain ⟨i, _, h⟩ := List.mem_flatMap.mp hn
  exact nums_ten i n h
theorem flat_len (its : List Itm) : (flat its).length ≤ 10 * its.length := by
  induction its with
  | nil => simp [flat]
  | cons a r ih =>
    have h1 : (nums a).length ≤ 10 := List.length_filter_le ..
    have h2 : flat (a :: r) = nums a ++ flat r := rfl
    rw [h2, List.length_append, List.length_cons]
    omega
theorem intsOf_map : ∀ ns : List Int, intsOf (ns.map PyData.int) = some ns
  | [] => rfl
  | x :: xs => by simp [intsOf, intsOf_map xs]
theorem uS_ten {ns : List Int} (h : ∀ n ∈ ns, n ∈ ten) : uS ns = ten.filter fun n => decide (n ∈ ns) := by
  have h' : ∀ n : Int, n ∉ ten → decide (n ∈ ns) = false := fun n hn => by
    rw [decide_eq_false_iff_not]
    exact fun z => hn (h n z)
  have e : uS ns = ([0] ++ (ten ++ [11, 12, 13, 14, 15])).filter fun n => decide (n ∈ ns) := by
    unfold uS ten
    congr 1
    funext j
    exact List.contains_eq_mem j ns
  have e0 : [0].filter (fun n => decide (n ∈ ns)) = [] := List.filter_eq_nil_iff.mpr fun a ha => by
    rw [List.mem_singleton.mp ha, h' 0 (by decide)]; exact Bool.false_ne_true
  have e1 : [11, 12, 13, 14, 15].filter (fun n => decide (n ∈ ns)) = [] := List.filter_eq_nil_iff.mpr fun a ha => by
    have ht : a ∉ ten := (by decide : ∀ a ∈ [(11 : Int), 12, 13, 14, 15], a ∉ ten) a ha
    rw [h' a ht]; exact Bool.false_ne_true
  rw [e, List.filter_append, List.filter_append, e0, e1, List.append_nil, List.nil_append]
theorem small_ten {ns : List Int} (h : ∀ n ∈ ns, n ∈ ten) (hl : ns.length < 4000) : small16 ns = true := by
  simp only [small16, Bool.and_eq_true, List.all_eq_true, decide_eq_true_eq]
  refine ⟨fun n hn => ?_, hl⟩
  have := h n hn
  simp [ten] at this
  omega
theorem sSet_ok {f : M R} {Γ Γ1 : En} {r : R} {ns : List Int} (h1 : f Γ = .ok r Γ1) (h2 : rdD Γ1 r = some (.list (ns.map PyData.int))) (h : ∀ n ∈ ns, n ∈ ten) (hl : ns.length < 4000) :
    sSet f Γ = .ok (.own (.lst ((ten.filter fun n => decide (n ∈ ns)).map PyData.int))) Γ1 := by
  simp [h1, h2, intsOf_map, small_ten h hl, uS_ten h]
theorem set_of_loop (y : Sl) : ∀ (its : List Itm) (acc : List Int) (z : Sl), (∀ i ∈ its, i ∈ items110) → acc.length + 10 * its.length ≤ 1000000 →
    ∃ z', forL (tgN 2) (augM 1 (callV 1 g_numbers_of (aLast (sto (eVar 2))))) (its.map iD) [y, .own none (.lst (acc.map PyData.int)), z] = .ok .nx [y, .own none (.lst ((acc ++ flat its).map PyData.int)), z']
  | [], acc, z, _, _ => ⟨z, by simp [flat]⟩
  | i :: its, acc, z, h, hl => by
    have hn := retV_of (F_numbers_of i (h i (by simp)))
    have hc : (nums i).length ≤ 10 := List.length_filter_le ..
    have hl : acc.length + 10 * (its.length + 1) ≤ 1000000 := by simpa using hl
    obtain ⟨z', e⟩ := set_of_loop y its (acc ++ nums i) (.val (iD i)) (fun j hj => h j (by simp [hj])) (by simp; omega)
    refine ⟨z', ?_⟩
    simp only [List.map_append] at e
    rw [List.map_cons, for_cons]
    simp [hn]
    rw [if_pos (by omega)]
    simp
    rw [e]
    simp [flat]
theorem set_of_ok {its : List Itm} (h : ∀ i ∈ its, i ∈ items110) (hl : its.length ≤ 300) : vOf (g_set_of [.val (di its)]) = some (.own (.lst ((meantT its).map PyData.int))) := by
  obtain ⟨z', e⟩ := set_of_loop (.val (di its)) its [] .un h (by simp; omega)
  simp only [List.map_nil, List.nil_append] at e
  have hs := sSet_ok (f := eVar 1) (Γ := [.val (di its), .own none (.lst ((flat its).map PyData.int)), z']) (r := .bor 1) rfl rfl (flat_ten its) (by have := flat_len its; omega)
  refine vOf_ok (Γ := [.val (di its), .own none (.lst ((flat its).map PyData.int)), z']) ?_ (fun _ => nofun)
  unfold g_set_of m_set_of
  simp [ap_fnP, ap_fnX, e, hs, -ap_sSet]
  rfl
theorem meant_loop (y : Sl) : ∀ (its : List Itm) (acc : List Int) (z : Sl), (∀ i ∈ its, i ∈ items110) → acc.length + 10 * its.length ≤ 1000000 →
    ∃ z', forL (tgN 2) (sAsg 1 (sto (bin dAdd (eVar 1) (callV 1 g_L_numbers (aLast (sto (eVar 2))))))) (its.map iD) [y, .val (dl acc), z] = .ok .nx [y, .val (dl (acc ++ flat its)), z']
  | [], acc, z, _, _ => ⟨z, by simp [flat]⟩
  | i :: its, acc, z, h, hl => by
    have hn := retV_of (F_numbers i (h i (by simp)))
    have hc : (nums i).length ≤ 10 := List.length_filter_le ..
    have hl : acc.length + 10 * (its.length + 1) ≤ 1000000 := by simpa using hl
    obtain ⟨z', e⟩ := meant_loop y its (acc ++ nums i) (.val (iD i)) (fun j hj => h j (by simp [hj])) (by simp; omega)
    refine ⟨z', ?_⟩
    unfold dl at e
    simp only [List.map_append] at e
    rw [List.map_cons, for_cons]
    simp [hn]
    rw [if_pos (by omega)]
    simp
    rw [e]
    simp [flat]
theorem meant_ok {its : List Itm} (h : ∀ i ∈ its, i ∈ items110) (hl : its.length ≤ 300) : vOf (g_L_meant [.val (di its)]) = some (.own (.lst ((meantT its).map PyData.int))) := by
  obtain ⟨z', e⟩ := meant_loop (.val (di its)) its [] .un h (by simp; omega)
  unfold dl at e
  simp only [List.map_nil, List.nil_append] at e
  have hs := sSet_ok (f := eVar 1) (Γ := [.val (di its), .val (dl (flat its)), z']) (r := .bor 1) rfl rfl (flat_ten its) (by have := flat_len its; omega)
  refine vOf_ok (Γ := [.val (di its), .val (dl (flat its)), z']) ?_ (fun _ => nofun)
  unfold g_L_meant m_L_meant
  simp [ap_fnP, ap_fnX, e, hs, -ap_sSet]
  rfl
end Rt
namespace Rt
open PySem PySem.Spec PyProof.Rows L2
theorem none_in {its : List Itm} : inD .none (.list (its.map iD)) = some false := by
  have h1 : ((its.map iD).any fun z => PyData.eqv z .none) = false := by
    rw [List.any_eq_false]
    intro x hx
    obtain ⟨i, _, rfl⟩ := List.mem_map.mp hx
    simp [iD, PyData.eqv]
  have h2 : SeqAt.shaped (.list (its.map iD)) = true := Enc.itm.list.shaped (by decide) its
  have h3 : SeqAt.shaped .none = true := by decide +kernel
  unfold inD
  simp only [h1, h2, h3, Bool.and_self, if_true, ite_self]
@[simp] theorem ap_dNotIn {a b : D} : dNotIn a b = (inD a b).map fun x => .val (.bool !x) := (rfl)
@[simp] theorem ap_dIn {a b : D} : dIn a b = (inD a b).map fun x => .val (.bool x) := (rfl)
theorem isi_str {z : Str} : dIsi "str" (.str z) = some (.val (.bool true)) := (rfl)
theorem split_ok {its : List Itm} (h : ∀ i ∈ its, i ∈ items110) (hne : its ≠ []) (hl : its.length ≤ 1000) : dSplit (.str (text its)) (.str ",") = some (.own (.lst ((its.map wd).map PyData.str))) := by
  have h1 := text_len h
  have h2 := split_text h hne
  unfold comma at h2
  simp only [dSplit]
  rw [if_pos ⟨by decide +kernel, by omega⟩, h2]
theorem items_in_ok {its : List Itm} (h : ∀ i ∈ its, i ∈ items110) (hne : its ≠ []) (hl : its.length ≤ 1000) : vOf (g_items_in [.val (.str (text its))]) = some (.val (di its)) := by
  have e : lcM (iSq (met1 dSplit (eVar 0) (eC (.str ",")))) (tgN 2) (M.ret true) (callV 1 g_item_in (aLast (sto (eVar 2)))) [2] [.val (.str (text its)), .un, .un] = .ok (.own (.lst (its.map iD))) [.val (.str (text its)), .un, .un] := by
    have := lcM_all (it := iSq (met1 dSplit (eVar 0) (eC (.str ",")))) (tg := tgN 2) (f := callV 1 g_item_in (aLast (sto (eVar 2)))) (vs := [2]) (Γ := [.val (.str (text its)), .un, .un]) (Γ1 := [.val (.str (text its)), .un, .un]) (fun i => .str (wd i)) iD its
      (by simp [split_ok h hne hl]) (by omega) (fun i hi => ⟨[.val (.str (text its)), .un, .val (.str (wd i))], by simp [wipeE], by simp [wipeE], rfl, fun _ => ⟨.val (iD i), by simp [retV_of (F_item_in i (h i hi))], rfl⟩⟩)
    simpa [wipeE, backE] using this
  refine vOf_ok (Γ := [.val (.str (text its)), .val (di its), .un]) ?_ (fun _ => nofun)
  unfold g_items_in m_items_in
  simp [ap_fnP, ap_fnX, isi_str, e, none_in]
theorem check_text_ok {its : List Itm} (h : ∀ i ∈ its, i ∈ items110) (hne : its ≠ []) (hl : its.length ≤ 1000) : vOf (g_check_text [.val (.str (text its))]) = some (.val .none) := by
  refine vOf_ok (Γ := [.val (.str (text its))]) ?_ (fun _ => nofun)
  unfold g_check_text m_check_text
  have : dIs (.list (its.map iD)) .none = some (.val (.bool false)) := rfl
  simp [ap_fnP, ap_fnX, retV_of (items_in_ok h hne hl), this]
theorem parse_ok {its : List Itm} (h : ∀ i ∈ its, i ∈ items110) (hne : its ≠ []) (hl : its.length ≤ 300) : vOf (g_parse [.val (.str (text its))]) = some (.own (.lst ((meantT its).map PyData.int))) := by
  refine vOf_ok (Γ := [.val (.str (text its))]) ?_ (fun _ => nofun)
  unfold g_parse m_parse
  simp [ap_fnP, ap_fnX, retV_of (check_text_ok h hne (by omega)), retV_of (items_in_ok h hne (by omega)), retV_of (set_of_ok h hl)]
theorem items_ok {its : List Itm} (h : ∀ i ∈ its, i ∈ items110) (hne : its ≠ []) (hl : its.length ≤ 300) : vOf (g_items [.val (.str (text its))]) = some (.val (di its)) := by
  refine vOf_ok (Γ := [.val (.str (text its))]) ?_ (fun _ => nofun)
  unfold g_items m_items
  simp [ap_fnP, ap_fnX, retV_of (check_text_ok h hne (by omega)), retV_of (items_in_ok h hne (by omega))]
/-! ### needless -/
theorem sIx_some {n k d : Nat} (h : k ≤ n) : HT.sIx n d (some (k : Int)) = k := by
  rw [HT.sIx_nat]
  omega
theorem cut_lo {ds : List D} {k : Nat} (h : k ≤ ds.length) : cutL ds none (some (k : Int)) = ds.take k := by
  unfold cutL
  rw [sIx_some h]
  simp [HT.sIx]
theorem cut_hi {ds : List D} {k : Nat} (h : k ≤ ds.length) : cutL ds (some (k : Int)) none = ds.drop k := by
  unfold cutL
  rw [sIx_some h]
  simp [HT.sIx]
  rw [List.take_of_length_le (by simp)]
/-- the items but one -/
def dropAt (its : List Itm) (k : Nat) : List Itm := its.take k ++ its.drop (k + 1)
def idleB (its : List Itm) (k : Nat) : Bool := !decide (dropAt its k = []) && decide (meantT (dropAt its k) = meantT its)
def needlessT (its : List Itm) : List Int := ((List.range its.length).filter (idleB its)).map fun k => ((k : Nat) : Int)
theorem drop_mem {its : List Itm} {k : Nat} (h : ∀ i ∈ its, i ∈ items110) : ∀ i ∈ dropAt its k, i ∈ items110 := fun i hi => by
  rcases List.mem_append.mp hi with hi | hi
  · exact h i (List.mem_of_mem_take hi)
  · exact h i (List.mem_of_mem_drop hi)
theorem drop_len {its : List Itm} {k : Nat} : (dropAt its k).length ≤ its.length := by
  unfold dropAt
  simp
  omega
theorem enumL_map (its : List Itm) : enumL (its.map iD) = ((List.range its.length).zip its).map fun p => PyData.tuple [.int ((p.1 : Nat) : Int), iD p.2] := by
  unfold enumL
  rw [List.length_map, List.zipWith_map_right, List.zip, List.map_zipWith]
theorem needless_loop {its : List Itm} (h : ∀ i ∈ its, i ∈ items110) (hl : its.length ≤ 300) (y : Sl) : ∀ (ps : List (Nat × Itm)) (acc : List Int) (z3 z4 z5 : Sl), (∀ p ∈ ps, p.1 < its.length) → acc.length + ps.length < 1000000 →
    ∃ z3' z4' z5', forL (tgT [3, 4]) (sSeq (sAsg 5 (sto (bin dAdd (slc (eVar 1) (noI) (soI (eVar 3))) (slc (eVar 1) (soI (bin dAdd (eVar 3) (eC (.int 1)))) (noI))))) (sIf (mAnd (tst (bin dNe (eVar 5) (mkLst (aNil)))) (tst (bin dEq (callV 1 g_set_of (aLast (sto (eVar 5)))) (callV 1 g_set_of (aLast (sto (eVar 1))))))) (sDrop (appM 2 (eVar 3))) (sNx))) (ps.map fun p => PyData.tuple [.int ((p.1 : Nat) : Int), iD p.2]) [y, .val (di its), .own none (.lst (acc.map PyData.int)), z3, z4, z5] =
      .ok .nx [y, .val (di its), .own none (.lst ((acc ++ ((ps.map (·.1)).filter (idleB its)).map fun k => ((k : Nat) : Int)).map PyData.int)), z3', z4', z5']
  | [], acc, z3, z4, z5, _, _ => ⟨z3, z4, z5, by simp⟩
  | (k, it) :: ps, acc, z3, z4, z5, hp, ha => by
    have hk : k < its.length := hp (k, it) (by simp)
    have ha : acc.length + (ps.length + 1) < 1000000 := by simpa using ha
    have c1 : dSl (.list (its.map iD)) none (some (k : Int)) = some (.own (.lst ((its.map iD).take k))) := by
      simp only [dSl]; rw [cut_lo (by simp; omega)]
    have c2 : dSl (.list (its.map iD)) (some ((k : Int) + 1)) none = some (.own (.lst ((its.map iD).drop (k + 1)))) := by
      have : ((k : Int) + 1) = ((k + 1 : Nat) : Int) := by omega
      simp only [dSl]; rw [this, cut_hi (by simp; omega)]
    have c3 : dAdd (.list ((its.map iD).take k)) (.list ((its.map iD).drop (k + 1))) = some (.own (.lst ((dropAt its k).map iD))) := by
      rw [dAdd_list, if_pos (by simp; omega), ← List.map_take, ← List.map_drop, ← List.map_append]; rfl
    have s1 := retV_of (set_of_ok h hl)
    have s2 := retV_of (set_of_ok (drop_mem (k := k) h) (Nat.le_trans drop_len hl))
    by_cases h1 : dropAt its k = []
    · obtain ⟨a, b, c, e⟩ := needless_loop h hl y ps acc (.val (.int k)) (.val (iD it)) (.val (.list [])) (fun p q => hp p (by simp [q])) (by omega)
      refine ⟨a, b, c, ?_⟩
      have hi : idleB its k = false := by simp [idleB, h1]
      rw [h1] at c3
      rw [List.map_cons, for_cons]
      simp [c1, c2, c3, ne_nil_nil, hi, -dAdd_list]
      rw [e]
      simp
    · by_cases h2 : meantT (dropAt its k) = meantT its
      · obtain ⟨a, b, c, e⟩ := needless_loop h hl y ps (acc ++ [(k : Int)]) (.val (.int k)) (.val (iD it)) (.val (di (dropAt its k))) (fun p q => hp p (by simp [q])) (by simp; omega)
        refine ⟨a, b, c, ?_⟩
        have hi : idleB its k = true := by simp [idleB, h1, h2]
        simp only [List.map_append, List.map_cons, List.map_nil] at e
        rw [List.map_cons, for_cons]
        simp [c1, c2, c3, ne_nil_itm, h1, hi, s1, s2, h2, eq_dl, -dAdd_list]
        rw [if_pos (by omega)]
        simp
        rw [e]
        simp
      · obtain ⟨a, b, c, e⟩ := needless_loop h hl y ps acc (.val (.int k)) (.val (iD it)) (.val (di (dropAt its k))) (fun p q => hp p (by simp [q])) (by omega)
        refine ⟨a, b, c, ?_⟩
        have hi : idleB its k = false := by simp [idleB, h2]
        rw [List.map_cons, for_cons]
        simp [c1, c2, c3, ne_nil_itm, h1, hi, s1, s2, h2, eq_dl, -dAdd_list]
        rw [e]
        simp
theorem needless_ok {its : List Itm} (h : ∀ i ∈ its, i ∈ items110) (hne : its ≠ []) (hl : its.length ≤ 300) : vOf (g_needless [.val (.str (text its))]) = some (.own (.lst ((needlessT its).map PyData.int))) := by
  obtain ⟨a, b, c, e⟩ := needless_loop h hl (.val (.str (text its))) ((List.range its.length).zip its) [] .un .un .un (fun p hp => by have := List.of_mem_zip hp; simpa using this.1) (by simp; omega)
  have hz : ((List.range its.length).zip its).map (·.1) = List.range its.length := by
    rw [List.map_fst_zip (by simp)]
  rw [hz] at e
  simp only [List.map_nil, List.nil_append] at e
  refine vOf_ok (Γ := [.val (.str (text its)), .val (di its), .un, a, b, c]) ?_ (fun _ => nofun)
  unfold g_needless m_needless
  simp [ap_fnP, ap_fnX, retV_of (check_text_ok h hne (by omega)), retV_of (items_in_ok h hne (by omega)), iEn, ap_bnd, enumL_map, e]
  rw [needlessT, List.map_map]
end Rt
namespace Rt
open PySem PySem.Spec PyProof.Rows L2
/-! ### sets -/
def runsT : List Int → List Itm
  | [] => []
  | x :: xs => match runsT xs with
    | (a, b, c) :: r => if a = x + 1 then (x, b, c) :: r else (x, x, 1) :: (a, b, c) :: r
    | [] => [(x, x, 1)]
theorem upto_ten : upto 10 = ten := by decide +kernel
def sets : List (List Int) := setsTo 10
theorem sets_eq : sets = (subsL ten).filter fun S => !S.isEmpty := by unfold sets setsTo; rw [upto_ten]
theorem F_runs_of : ∀ S ∈ subsL ten, vOf (g_runs_of [.val (dl S)]) = some (.own (.lst ((runsT S).map iD))) := all_of (by kernel_rfl)
theorem F_runs : ∀ S ∈ subsL ten, vOf (g_L_runs [.val (dl S)]) = some (.own (.lst ((runsT S).map iD))) := all_of (by kernel_rfl)
theorem F_is_set : ∀ S ∈ sets, vOf (g_is_set [.val (dl S)]) = some (.val (.bool true)) := all_of (by kernel_rfl)
theorem F_check_set (S : List Int) (h : S ∈ sets) : vOf (g_check_set [.val (dl S)]) = some (.val .none) := by
  refine vOf_ok (Γ := [.val (dl S)]) ?_ (fun _ => nofun)
  unfold g_check_set m_check_set
  simp [ap_fnX, retV_of (F_is_set S h)]
theorem F_runs110 : ((subsL ten).all fun S => (runsT S).all fun i => items110.contains i) = true := by decide +kernel
end Rt
namespace Rt
open PySem PySem.Spec PyProof.Rows L2
theorem sets_subs {S : List Int} (h : S ∈ sets) : S ∈ subsL ten := by
  rw [sets_eq] at h
  exact (List.mem_filter.mp h).1
theorem sets_ne {S : List Int} (h : S ∈ sets) : S ≠ [] := by
  rw [sets_eq] at h
  have := (List.mem_filter.mp h).2
  intro z
  subst z
  cases this
theorem runs110 {S : List Int} (h : S ∈ subsL ten) : ∀ i ∈ runsT S, i ∈ items110 := fun i hi => by
  have h1 := List.all_eq_true.mp F_runs110 S h
  have h2 := List.all_eq_true.mp h1 i hi
  exact List.contains_iff_mem.mp h2
theorem F_runs_len : ((subsL ten).all fun S => decide ((runsT S).length ≤ 10)) = true := by decide +kernel
theorem runs_len {S : List Int} (h : S ∈ subsL ten) : (runsT S).length ≤ 10 := of_decide_eq_true (List.all_eq_true.mp F_runs_len S h)
theorem lcs_call {g : En → Rs R} {v : Nat} {B : En} {d e : D} {q : R} (hv : v < B.length) (hB : B.set v .un = B) (hg : vOf (g [.val d]) = some q) (hq : ∀ Γ, stD q Γ = .ok e Γ) : LcS (tgN v) (M.ret true) (callV 1 g (aLast (sto (eVar v)))) [v] B d true e := by
  have h1 : (B.set v (.val d))[v]? = some (.val d) := by rw [List.getElem?_set_self hv]
  refine ⟨B.set v (.val d), by simp [hv], by simp [wipeE, hB], rfl, fun _ => ⟨q, ?_, hq _⟩⟩
  simp [h1, retV_of hg]
theorem back1 (Γ : En) (v : Nat) : backE Γ (wipeE Γ [v]) [v] = Γ.set v (bkS Γ[v]?) := by
  have e : backE Γ (wipeE Γ [v]) [v] = (Γ.set v .un).set v (bkS Γ[v]?) := by
    show ((Γ.set v .un).set v _) = _
    congr 1
  rw [e, List.set_set]
@[simp] theorem bkS_un : bkS (some .un) = .un := (rfl)
@[simp] theorem bkS_val {d : D} : bkS (some (.val d)) = .val d := (rfl)
/-- words of items, joined -/
theorem join_lc {g : En → Rs R} {it : M (List D)} {v : Nat} {Γ Γ1 : En} {its : List Itm} (hF : ∀ i ∈ items110, vOf (g [.val (iD i)]) = some (.val (.str (wd i)))) (hi : it Γ = .ok (its.map iD) Γ1) (hv : v < Γ1.length) (h : ∀ i ∈ its, i ∈ items110) (hl : its.length ≤ 1000) :
    met1 dJoin (eC (.str ",")) (lcM it (tgN v) (M.ret true) (callV 1 g (aLast (sto (eVar v)))) [v]) Γ = .ok (.val (.str (text its))) (Γ1.set v (bkS Γ1[v]?)) := by
  have e := lcM_all (f := callV 1 g (aLast (sto (eVar v)))) (tg := tgN v) (vs := [v]) iD (fun i => .str (wd i)) its hi (by omega) (fun i hi => lcs_call (by simpa [wipeE] using hv) (by simp [wipeE]) (hF i (h i hi)) (fun _ => rfl))
  rw [back1] at e
  have j := join_words h hl
  unfold comma at j
  rw [List.map_map] at j
  have hc : (its.map fun i => PyData.str (wd i)) = its.map (PyData.str ∘ wd) := rfl
  rw [hc] at e
  simp [e, j]
theorem set_un {Γ : En} {v : Nat} (h : Γ[v]? = some .un) : Γ.set v .un = Γ := by
  apply List.ext_getElem?
  intro j
  rw [List.getElem?_set]
  by_cases e : v = j
  · subst e
    rw [if_pos rfl, h]
    rw [if_pos (List.getElem?_eq_some_iff.mp h).1]
  · rw [if_neg e]
/-- from a slot -/
theorem join_own {g : En → Rs R} {v i : Nat} {k : Option Nat} {Γ : En} {its : List Itm} (hF : ∀ i ∈ items110, vOf (g [.val (iD i)]) = some (.val (.str (wd i)))) (h : ∀ i ∈ its, i ∈ items110) (hl : its.length ≤ 1000) (hi : Γ[i]? = some (.own k (.lst (its.map iD)))) (hu : Γ[v]? = some .un) :
    met1 dJoin (eC (.str ",")) (lcM (iSq (eVar i)) (tgN v) (M.ret true) (callV 1 g (aLast (sto (eVar v)))) [v]) Γ = .ok (.val (.str (text its))) (Γ.set i (.val (.list (its.map iD)))) := by
  have hne : i ≠ v := fun z => by subst z; rw [hi] at hu; cases hu
  have hu' : (Γ.set i (.val (.list (its.map iD))))[v]? = some .un := by rw [List.getElem?_set_ne hne, hu]
  rw [join_lc (Γ1 := Γ.set i (.val (.list (its.map iD)))) hF (by simp [hi]) (List.getElem?_eq_some_iff.mp hu').1 h hl, hu', bkS_un, set_un hu']
theorem join_val {g : En → Rs R} {v i : Nat} {Γ : En} {its : List Itm} (hF : ∀ i ∈ items110, vOf (g [.val (iD i)]) = some (.val (.str (wd i)))) (h : ∀ i ∈ its, i ∈ items110) (hl : its.length ≤ 1000) (hi : Γ[i]? = some (.val (.list (its.map iD)))) (hu : Γ[v]? = some .un) :
    met1 dJoin (eC (.str ",")) (lcM (iSq (eVar i)) (tgN v) (M.ret true) (callV 1 g (aLast (sto (eVar v)))) [v]) Γ = .ok (.val (.str (text its))) Γ := by
  rw [join_lc (Γ1 := Γ) hF (by simp [hi]) (List.getElem?_eq_some_iff.mp hu).1 h hl, hu, bkS_un, set_un hu]
/-- from an expression that leaves the slots -/
theorem join_exp {g : En → Rs R} {it : M (List D)} {v : Nat} {Γ Γ1 : En} {its : List Itm} (hF : ∀ i ∈ items110, vOf (g [.val (iD i)]) = some (.val (.str (wd i)))) (h : ∀ i ∈ its, i ∈ items110) (hl : its.length ≤ 1000) (hi : it Γ = .ok (its.map iD) Γ1) (hu : Γ1[v]? = some .un) :
    met1 dJoin (eC (.str ",")) (lcM it (tgN v) (M.ret true) (callV 1 g (aLast (sto (eVar v)))) [v]) Γ = .ok (.val (.str (text its))) Γ1 := by
  rw [join_lc (Γ1 := Γ1) hF hi (List.getElem?_eq_some_iff.mp hu).1 h hl, hu, bkS_un, set_un hu]
theorem join_runs_own {v i : Nat} {k : Option Nat} {Γ : En} {S : List Int} (hS : S ∈ subsL ten) (hi : Γ[i]? = some (.own k (.lst (S.map PyData.int)))) (hu : Γ[v]? = some .un) :
    met1 dJoin (eC (.str ",")) (lcM (iSq (callV 1 g_L_runs (aLast (sto (eVar i))))) (tgN v) (M.ret true) (callV 1 g_L_word (aLast (sto (eVar v)))) [v]) Γ = .ok (.val (.str (text (runsT S)))) (Γ.set i (.val (.list (S.map PyData.int)))) := by
  have hne : i ≠ v := fun z => by subst z; rw [hi] at hu; cases hu
  have hu' : (Γ.set i (.val (.list (S.map PyData.int))))[v]? = some .un := by rw [List.getElem?_set_ne hne, hu]
  exact join_exp F_word (runs110 hS) (by have := runs_len hS; omega) (by simp [hi, retV_of (F_runs S hS)]) hu'
theorem join_runs_val {v i : Nat} {Γ : En} {S : List Int} (hS : S ∈ subsL ten) (hi : Γ[i]? = some (.val (.list (S.map PyData.int)))) (hu : Γ[v]? = some .un) :
    met1 dJoin (eC (.str ",")) (lcM (iSq (callV 1 g_L_runs (aLast (sto (eVar i))))) (tgN v) (M.ret true) (callV 1 g_L_word (aLast (sto (eVar v)))) [v]) Γ = .ok (.val (.str (text (runsT S)))) Γ :=
  join_exp F_word (runs110 hS) (by have := runs_len hS; omega) (by simp [hi, retV_of (F_runs S hS)]) hu
theorem join_text {v i : Nat} {k : Option Nat} {m : Int} {Γ Γ' : En} {ns ns' : List Int} {n n' : Int} {its : List Itm} (h : ∀ i ∈ its, i ∈ items110) (hl : its.length ≤ 1000) (e : g_L_text [.own (some 0) (.drw ns n), .val (.int m)] = .ok (.own (.lst (its.map iD))) Γ') (f : Γ'[0]? = some (.own (some 0) (.drw ns' n'))) (hi : Γ[i]? = some (.own k (.drw ns n))) (hu : Γ[v]? = some .un) :
    met1 dJoin (eC (.str ",")) (lcM (iSq (callIO 2 g_L_text (aCons (eVar i) (aLast (sto (eC (.int m))))))) (tgN v) (M.ret true) (callV 1 g_L_word (aLast (sto (eVar v)))) [v]) Γ = .ok (.val (.str (text its))) (Γ.set i (.own k (.drw ns' n'))) := by
  have hne : i ≠ v := fun z => by subst z; rw [hi] at hu; cases hu
  have hu' : (Γ.set i (.own k (.drw ns' n')))[v]? = some .un := by rw [List.getElem?_set_ne hne, hu]
  have c := io2 (g := g_L_text) (f := eC (.int m)) (Γ := Γ) (i := i) hi (Γ0 := Γ) (q := .val (.int m)) rfl rfl hi e f (fun _ => nofun)
  exact join_exp F_word h hl (by simp [c]) hu'
theorem add_items {a b : List Itm} (hl : a.length + b.length ≤ 1000000) : dAdd (.list (a.map iD)) (.list (b.map iD)) = some (.own (.lst ((a ++ b).map iD))) := by
  rw [dAdd_list, if_pos (by simpa using hl), List.map_append]
theorem plain_of_ok {S : List Int} (h : S ∈ subsL ten) : vOf (g_plain_of [.val (dl S)]) = some (.val (.str (text (runsT S)))) := by
  refine vOf_ok (Γ := [.val (dl S), .un]) ?_ (fun _ => nofun)
  have e := join_lc (it := iSq (callV 1 g_runs_of (aLast (sto (eVar 0))))) (v := 1) (Γ := [.val (dl S), .un]) (Γ1 := [.val (dl S), .un]) F_text_of (by simp [retV_of (F_runs_of S h)]) (by simp) (runs110 h) (by have := runs_len h; omega)
  unfold g_plain_of m_plain_of
  simp [ap_fnP, ap_fnX, e, -ap_met1]
theorem plain_ok {S : List Int} (h : S ∈ sets) : vOf (g_plain [.val (dl S)]) = some (.val (.str (text (runsT S)))) := by
  refine vOf_ok (Γ := [.val (dl S)]) ?_ (fun _ => nofun)
  unfold g_plain m_plain
  simp [ap_fnP, ap_fnX, retV_of (F_check_set S h), retV_of (plain_of_ok (sets_subs h))]
theorem runs_ok {S : List Int} (h : S ∈ sets) : vOf (g_runs [.val (dl S)]) = some (.own (.lst ((runsT S).map iD))) := by
  refine vOf_ok (Γ := [.val (dl S)]) ?_ (fun _ => nofun)
  unfold g_runs m_runs
  simp [ap_fnP, ap_fnX, retV_of (F_check_set S h), retV_of (F_runs_of S (sets_subs h))]
theorem meant_subs (its : List Itm) : meantT its ∈ subsL ten := subs_filter _ ten
theorem F_nums_ne : ∀ i ∈ items110, nums i ≠ [] := by decide +kernel
theorem meant_ne {its : List Itm} (h : ∀ i ∈ its, i ∈ items110) (hne : its ≠ []) : meantT its ≠ [] := by
  obtain ⟨i, r, rfl⟩ := List.exists_cons_of_ne_nil hne
  obtain ⟨n, l, e⟩ := List.exists_cons_of_ne_nil (F_nums_ne i (h i (by simp)))
  have hn : n ∈ nums i := by rw [e]; simp
  intro z
  have : n ∈ meantT (i :: r) := by
    unfold meantT
    refine List.mem_filter.mpr ⟨nums_ten i n hn, ?_⟩
    rw [decide_eq_true_eq]
    unfold flat
    exact List.mem_flatMap.mpr ⟨i, by simp, hn⟩
  rw [z] at this
  cases this
theorem meant_sets {its : List Itm} (h : ∀ i ∈ its, i ∈ items110) (hne : its ≠ []) : meantT its ∈ sets := by
  rw [sets_eq]
  refine List.mem_filter.mpr ⟨meant_subs its, ?_⟩
  cases e : meantT its with
  | nil => exact absurd e (meant_ne h hne)
  | cons a b => rfl
theorem runs_ne {S : List Int} (h : S ≠ []) : runsT S ≠ [] := by
  obtain ⟨x, r, rfl⟩ := List.exists_cons_of_ne_nil h
  unfold runsT
  split
  · split <;> simp
  · simp
theorem tidy_ok {its : List Itm} (h : ∀ i ∈ its, i ∈ items110) (hne : its ≠ []) (hl : its.length ≤ 300) : vOf (g_tidy [.val (.str (text its))]) = some (.val (.str (text (runsT (meantT its))))) := by
  refine vOf_ok (Γ := [.val (.str (text its))]) ?_ (fun _ => nofun)
  unfold g_tidy m_tidy
  simp [ap_fnP, ap_fnX, retV_of (check_text_ok h hne (by omega)), retV_of (items_in_ok h hne (by omega)), retV_of (set_of_ok h hl), retV_of (plain_of_ok (meant_subs its))]
theorem is_plain_ok {its : List Itm} (h : ∀ i ∈ its, i ∈ items110) (hne : its ≠ []) (hl : its.length ≤ 300) : vOf (g_is_plain [.val (.str (text its))]) = some (.val (.bool (text (runsT (meantT its)) == text its))) := by
  refine vOf_ok (Γ := [.val (.str (text its))]) ?_ (fun _ => nofun)
  unfold g_is_plain m_is_plain
  simp [ap_fnP, ap_fnX, retV_of (check_text_ok h hne (by omega)), retV_of (items_in_ok h hne (by omega)), retV_of (set_of_ok h hl), retV_of (plain_of_ok (meant_subs its))]
theorem mean_same_ok {its jts : List Itm} (h : ∀ i ∈ its, i ∈ items110) (hne : its ≠ []) (hl : its.length ≤ 300) (h' : ∀ i ∈ jts, i ∈ items110) (hne' : jts ≠ []) (hl' : jts.length ≤ 300) : vOf (g_mean_same [.val (.str (text its)), .val (.str (text jts))]) = some (.val (.bool (decide (meantT its = meantT jts)))) := by
  refine vOf_ok (Γ := [.val (.str (text its)), .val (.str (text jts))]) ?_ (fun _ => nofun)
  unfold g_mean_same m_mean_same
  simp [ap_fnP, ap_fnX, retV_of (check_text_ok h hne (by omega)), retV_of (items_in_ok h hne (by omega)), retV_of (set_of_ok h hl), retV_of (check_text_ok h' hne' (by omega)), retV_of (items_in_ok h' hne' (by omega)), retV_of (set_of_ok h' hl'), eq_dl]
theorem mem_app {its jts : List Itm} (h : ∀ i ∈ its, i ∈ items110) (h' : ∀ i ∈ jts, i ∈ items110) : ∀ i ∈ its ++ jts, i ∈ items110 := fun i hi => (List.mem_append.mp hi).elim (h i) (h' i)
theorem join_texts_ok {its jts : List Itm} (h : ∀ i ∈ its, i ∈ items110) (hne : its ≠ []) (hl : its.length ≤ 100) (h' : ∀ i ∈ jts, i ∈ items110) (hne' : jts ≠ []) (hl' : jts.length ≤ 100) : vOf (g_join_texts [.val (.str (text its)), .val (.str (text jts))]) = some (.val (.str (text (runsT (meantT (its ++ jts)))))) := by
  refine vOf_ok (Γ := [.val (.str (text its)), .val (.str (text jts))]) ?_ (fun _ => nofun)
  have ha : dAdd (.list (its.map iD)) (.list (jts.map iD)) = some (.own (.lst ((its ++ jts).map iD))) := by
    rw [dAdd_list, if_pos (by simp; omega), List.map_append]
  have hs := retV_of (set_of_ok (mem_app h h') (by simp; omega))
  have hp := retV_of (plain_of_ok (meant_subs (its ++ jts)))
  unfold di at hs
  unfold g_join_texts m_join_texts
  simp only [List.map_append] at hs ha
  simp [ap_fnP, ap_fnX, retV_of (check_text_ok h hne (by omega)), retV_of (items_in_ok h hne (by omega)), retV_of (check_text_ok h' hne' (by omega)), retV_of (items_in_ok h' hne' (by omega)), ha, hs, hp, -dAdd_list]
theorem true_ok {a b : Bool} : vOf (g_L_true [.val (.bool a), .val (.bool b)]) = some (.val (.bool (decide (a = b)))) := by
  cases a <;> cases b <;> rfl
/-! the holes of a set -/
def span (a b : Int) : List Int := (List.range (b + 1 - a).toNat).map fun i => a + ((i : Nat) : Int)
def loT (S : List Int) : Int := S.headD 0
def hiT (S : List Int) : Int := S.getLastD 0
def holesT (S : List Int) : List Int := (span (loT S) (hiT S)).filter fun n => !decide (n ∈ S)
theorem span_rg {a b : Int} (ha : a ∈ ten) (hb : b ∈ ten) : rg2 [.int a, .int (b + 1)] = some ((span a b).map PyData.int) := by
  have h1 : small62 a = true := by
    have := (by decide +kernel : ∀ a ∈ ten, small62 a = true)
    exact this a ha
  have h2 : small62 (b + 1) = true := by
    have := (by decide +kernel : ∀ a ∈ ten, small62 (a + 1) = true)
    exact this b hb
  simp only [rg2, h1, h2, Bool.and_self, if_true, rngL, span, List.map_map]
  rfl
theorem F_ends : (sets.all fun S => ten.contains (loT S) && ten.contains (hiT S)) = true := by decide +kernel
theorem head_ten {S : List Int} (h : S ∈ sets) : loT S ∈ ten := by
  have := List.all_eq_true.mp F_ends S h
  simp only [Bool.and_eq_true] at this
  exact List.contains_iff_mem.mp this.1
theorem last_ten {S : List Int} (h : S ∈ sets) : hiT S ∈ ten := by
  have := List.all_eq_true.mp F_ends S h
  simp only [Bool.and_eq_true] at this
  exact List.contains_iff_mem.mp this.2
theorem at_head : ∀ S ∈ sets, atI (S.map PyData.int) 0 = some (.int (loT S)) := all_of (by kernel_rfl)
theorem at_last : ∀ S ∈ sets, atI (S.map PyData.int) (-1) = some (.int (hiT S)) := all_of (by kernel_rfl)
theorem dNeg_one : dNeg (.int 1) = some (.val (.int (-1))) := rfl
theorem holes_lc {S : List Int} {i v : Nat} {Γ : En} (hS : S ∈ sets) (hi : Γ[i]? = some (.val (.list (S.map PyData.int)))) (hu : Γ[v]? = some .un) :
    lcM (iRg rg2 (aCons (bin dIx (eVar i) (eC (.int 0))) (aLast (bin dAdd (bin dIx (eVar i) (M.bnd (eC (.int 1)) fun r => un1 dNeg r)) (eC (.int 1)))))) (tgN v) (tst (bin dNotIn (eVar v) (eVar i))) (eVar v) [v] Γ = .ok (.own (.lst ((holesT S).map PyData.int))) Γ := by
  have hne : i ≠ v := fun z => by subst z; rw [hi] at hu; cases hu
  have hv := (List.getElem?_eq_some_iff.mp hu).1
  have e := lcM_ok (it := iRg rg2 (aCons (bin dIx (eVar i) (eC (.int 0))) (aLast (bin dAdd (bin dIx (eVar i) (M.bnd (eC (.int 1)) fun r => un1 dNeg r)) (eC (.int 1)))))) (tg := tgN v) (t := tst (bin dNotIn (eVar v) (eVar i))) (f := eVar v) (vs := [v]) (Γ := Γ) (Γ1 := Γ) PyData.int (fun n => !decide (n ∈ S)) PyData.int (span (loT S) (hiT S))
    (by simp [hi, at_head S hS, at_last S hS, dNeg_one, span_rg (head_ten hS) (last_ten hS)])
    (by
      have h1 := head_ten hS
      have h2 := last_ten hS
      simp only [span, List.length_map, List.length_range]
      have h3 : (∀ a ∈ ten, 1 ≤ a ∧ a ≤ 10) := by decide
      have h1 := h3 _ h1
      have h2 := h3 _ h2
      omega)
    (fun n hn => by
      have w : wipeE Γ [v] = Γ := set_un hu
      rw [w]
      have g1 : (Γ.set v (.val (.int n)))[v]? = some (.val (.int n)) := List.getElem?_set_self hv
      have g2 : (Γ.set v (.val (.int n)))[i]? = some (.val (.list (S.map PyData.int))) := by rw [List.getElem?_set_ne (Ne.symm hne), hi]
      exact ⟨Γ.set v (.val (.int n)), by simp [hv], by show (Γ.set v _).set v _ = _; rw [List.set_set]; exact set_un hu, by simp [g1, g2, in_dl], fun _ => ⟨.bor v, by simp [g1], by simp [g1]⟩⟩)
  rw [e, back1, hu, bkS_un, set_un hu]
  rfl
theorem F_holes : (sets.all fun S => decide (holesT S = ten.filter fun n => decide (n ∈ holesT S)) && decide ((runsT (holesT S)).length + 1 = (runsT S).length)) = true := by decide +kernel
theorem holes_subs {S : List Int} (h : S ∈ sets) : holesT S ∈ subsL ten := by
  have := List.all_eq_true.mp F_holes S h
  simp only [Bool.and_eq_true, decide_eq_true_eq] at this
  rw [this.1]
  exact subs_filter _ ten
theorem holes_len {S : List Int} (h : S ∈ sets) : (runsT (holesT S)).length + 1 = (runsT S).length := by
  have := List.all_eq_true.mp F_holes S h
  simp only [Bool.and_eq_true, decide_eq_true_eq] at this
  exact this.2
theorem gaps_ok {S : List Int} (h : S ∈ sets) : vOf (g_gaps [.val (dl S)]) = some (.own (.lst ((runsT (holesT S)).map iD))) := by
  refine vOf_ok (Γ := [.val (dl S), .un]) ?_ (fun _ => nofun)
  unfold g_gaps m_gaps
  simp [ap_fnP, ap_fnX, retV_of (F_check_set S h), holes_lc (Γ := [.val (dl S), .un]) (i := 0) (v := 1) h rfl rfl, retV_of (F_runs_of _ (holes_subs h))]
theorem F_rt : (sets.all fun S => decide (meantT (runsT S) = S) && decide (needlessT (runsT S) = [])) = true := by decide +kernel
theorem meant_runs {S : List Int} (h : S ∈ sets) : meantT (runsT S) = S := by
  have := List.all_eq_true.mp F_rt S h
  simp only [Bool.and_eq_true, decide_eq_true_eq] at this
  exact this.1
theorem needless_runs {S : List Int} (h : S ∈ sets) : needlessT (runsT S) = [] := by
  have := List.all_eq_true.mp F_rt S h
  simp only [Bool.and_eq_true, decide_eq_true_eq] at this
  exact this.2
end Rt
namespace Rt
open PySem PySem.Spec PyProof.Rows L2
/-! dicts whose keys are ints -/
def lookK (kvs : List (Int × Int)) (n : Int) : Option Int := match kvs with
  | [] => none
  | kv :: r => if kv.1 = n then some kv.2 else lookK r n
def putI (kvs : List (Int × Int)) (n v : Int) : List (Int × Int) :=
  if (lookK kvs n).isSome then kvs.map (fun kv => if kv.1 = n then (kv.1, v) else kv) else kvs ++ [(n, v)]
theorem val_lookK (n : Int) : ∀ kvs : List (Int × Int), valV (kvs.map keyI) (Sum.inl n : Key) = (lookK kvs n).map V.int
  | [] => rfl
  | kv :: r => by
    unfold lookK
    rw [List.map_cons]
    by_cases h : kv.1 = n
    · rw [if_pos h, valV_pos (show (keyI kv).1 = Sum.inl n by rw [← h]; rfl)]; rfl
    · rw [if_neg h]
      have : valV (keyI kv :: r.map keyI) (Sum.inl n : Key) = valV (r.map keyI) (Sum.inl n) := by
        unfold valV
        rw [List.find?_cons]
        have : (keyI kv).1 ≠ (Sum.inl n : Key) := fun z => h (by injection z)
        simp [this]
      rw [this]
      exact val_lookK n r
theorem any_lookK (n : Int) : ∀ kvs : List (Int × Int), ((kvs.map keyI).any fun kv => decide (kv.1 = (Sum.inl n : Key))) = (lookK kvs n).isSome
  | [] => rfl
  | kv :: r => by
    unfold lookK
    rw [List.map_cons, List.any_cons, any_lookK n r]
    by_cases h : kv.1 = n
    · rw [if_pos h, decide_eq_true (show (keyI kv).1 = Sum.inl n by rw [← h]; rfl)]; rfl
    · rw [if_neg h, decide_eq_false (show ¬ (keyI kv).1 = (Sum.inl n : Key) from fun z => h (by injection z))]; rfl
theorem put_lookK (kvs : List (Int × Int)) (n v : Int) : putK (kvs.map keyI) (Sum.inl n : Key) (.int v) = (putI kvs n v).map keyI := by
  unfold putK putI
  rw [any_lookK]
  by_cases h : (lookK kvs n).isSome = true
  · rw [if_pos h, if_pos h, List.map_map, List.map_map]
    refine List.map_congr_left fun kv _ => ?_
    show (if (keyI kv).1 = (Sum.inl n : Key) then ((keyI kv).1, V.int v) else keyI kv) = keyI (if kv.1 = n then (kv.1, v) else kv)
    by_cases h : kv.1 = n
    · rw [if_pos h, if_pos (show (keyI kv).1 = Sum.inl n by rw [← h]; rfl)]; rfl
    · rw [if_neg h, if_neg (show ¬ (keyI kv).1 = (Sum.inl n : Key) from fun z => h (by injection z))]
  · rw [if_neg h, if_neg h, List.map_append]; rfl
def dictK (Γ : En) (i : Nat) : Option (List (Int × Int)) := match Γ[i]? with
  | some (.own _ (.dK kvs)) => some kvs
  | _ => none
section
variable {k : Kx} {X : Cx} {E : L2.St → XK} {pos p p2 apos : Pos} {e a b : Expr} {fa fb f : M R}
theorem dictK_of {c : Gc} {Γ : En} {σ : L2.St} {F : Hp} {W : Wm} {H : Hp} {i : Nat} {kvs : List (Int × Int)} (so : SOk k c Γ σ F W H) (h : dictK Γ i = some kvs) : ∃ q kk, σ[i]? = some (some (.ref q)) ∧ Γ[i]? = some (.own kk (.dK kvs)) ∧ W q = some (.slot i) ∧ H q = some (.dK (kvs.map keyI)) := by
  unfold dictK at h
  split at h
  · rename_i kk kvs' hg
    cases h
    obtain ⟨q, h1, _, h2, h3⟩ := so.sl i _ hg
    exact ⟨q, kk, h1, hg, h2, h3⟩
  · cases h
def intD : PyData → Option Int
  | .int n => some n
  | _ => none
theorem Rdy.intD {F H : Hp} {v : V} {d : PyData} {n : Int} (h : Rdy F H v d) (e : Rt.intD d = some n) : v = .int n := by
  cases d with
  | int m => cases e; exact h.int
  | _ => cases e
/-- d.get(key, x) -/
def getK (i : Nat) (f g : M R) : M R := fun Γ => match dictK Γ i with
  | some _ => M.bnd f (fun r Γ1 => match (rdD Γ1 r).bind intD with
    | some n => M.bnd g (fun r2 Γ2 => match dictK Γ2 i, (rdD Γ2 r2).bind intD with
      | some kvs, some m => .ok (.val (.int ((lookK kvs n).getD m))) Γ2
      | _, _ => .bad) Γ1
    | none => .bad) Γ
  | none => .bad
theorem se_getK {i : Nat} {o : Expr} {g : M R} (hu : X.A.units + 1 < cLine) (ho : PE X o (tVar i)) (ha : PE X a (tE k f E)) (hb : PE X b (tE k g E)) (m : M2 X o "get" apos a b pos) : PE X (.Call (.Attribute o "get" apos) [a, b] [] pos) (tE k (getK i f g) E) :=
  (pe_dget2 hu ho ha hb m).imp fun σ H Q ⟨c, Γ, F, W, so, po⟩ => by
    simp only [getK] at po
    split at po
    · rename_i kvs0 h0
      obtain ⟨q, kk, hσ, _, _, hq⟩ := dictK_of so h0
      refine ⟨_, hσ, q, rfl, .inl ⟨_, .inl hq⟩, c, Γ, F, W, so, Post.seq po fun r Γ1 v F1 W1 H1 so1 sm1 r1 po1 => ?_⟩
      split at po1
      · rename_i n hn
        obtain ⟨d, h3, h4⟩ := Option.bind_eq_some_iff.mp hn
        have ev := (so1.rd r1 h3).intD h4
        subst ev
        refine ⟨c, Γ1, F1, W1, so1, Post.seq po1 fun r2 Γ2 v2 F2 W2 H2 so2 sm2 r2' po2 => ?_⟩
        split at po2
        · rename_i kvs m h1 h2
          obtain ⟨d2, h5, h6⟩ := Option.bind_eq_some_iff.mp h2
          have ev2 := (so2.rd r2' h5).intD h6
          subst ev2
          obtain ⟨q', kk', hσ', _, _, hq'⟩ := dictK_of so2 h1
          rw [hσ] at hσ'; cases hσ'
          refine ⟨_, DGet.k (k := Sum.inl n) hq', ?_⟩
          rw [val_lookK]
          have : ((lookK kvs n).map V.int).getD (.int m) = .int ((lookK kvs n).getD m) := by cases lookK kvs n <;> rfl
          rw [this]
          exact po2 _ F2 W2 H2 so2 (Same.refl F2) (.int _)
        · exact po2.elim
      · exact po1.elim
    · exact po.elim
/-- d[key] = v -/
def putKM (i : Nat) (fk fv : M R) : M Fl := fv.bnd fun r => (stD r).bnd fun d Γ => match dictK Γ i with
  | some _ => M.bnd fk (fun rk Γ => match Γ[i]?, (rdD Γ rk).bind intD, d with
    | some (.own kk (.dK kvs)), some n, .int w => if kvs.length < 1000000 then .ok .nx (Γ.set i (.own kk (.dK (putI kvs n w)))) else .bad
    | _, _, _ => .bad) Γ
  | none => .bad
theorem ss_putK {i : Nat} {o x : Expr} {px : Pos} {fk fv : M R} (hu : X.A.units + 1 < cLine) (ho : PE X o (tVar i)) (hx : PE X x (tE k fk E)) (he : PE X e (tE k fv E)) (hs : swapsWith e (some (.Subscript o x px)) pos.line X.env = pure false := by rfl) :
    PS X (.Assign [.Subscript o x px] e pos) (tS k (putKM i fk fv) E) :=
  (ps_dput hu ho hx he hs).imp fun D σ H ⟨c, Γ, F, W, so, po⟩ => ⟨c, Γ, F, W, so, po.seqE fun r Γ1 v F1 W1 H1 so1 sm1 r1 po1 => by
    obtain ⟨d, Γ2, F2, W2, so2, sm2, dt, po2⟩ := st_stepS so1 r1 po1
    split at po2
    · rename_i kvs0 h0
      obtain ⟨q, kk, hσ, _, _, hq⟩ := dictK_of so2 h0
      refine ⟨_, hσ, c, Γ2, F2, W2, so2, PostS.seqE po2 fun rk Γ3 vk F3 W3 H3 so3 sm3 r3 po3 => ?_⟩
      split at po3
      · rename_i kk kvs n w hg h2
        obtain ⟨d', h3, h4⟩ := Option.bind_eq_some_iff.mp h2
        obtain ⟨q', hσ', _, hw', hq'⟩ := so3.sl i _ hg
        rw [hσ] at hσ'; cases hσ'
        have evk := (so3.rd r3 h3).intD h4
        subst evk
        split at po3
        · rename_i hz
          have ev : v = .int w := (dt.mono sm3).int_of
          subst ev
          refine ⟨q, _, rfl, DPut.k (k := Sum.inl n) hq' (by rw [List.length_map]; exact lt_mil hz), po3 σ F3 W3 _ (so3.mut hg hσ hw' ⟨hw', ?_⟩) (Same.refl F3)⟩
          rw [upd_same, put_lookK]
        · exact po3.elim
      · exact po3.elim
    · exact po2.elim⟩
/-- {}: its keys will be ints -/
def newK : M R := M.ret (.own (.dK []))
theorem se_dnewK : PE X (.Dict [] [] pos) (tE k newK E) := pe_dnewK.imp fun σ H Q ⟨c, Γ, F, W, so, po⟩ => fun p hp => po _ F _ _ (so.newT hp) (Same.refl F) ⟨p, rfl, updW_same, upd_same⟩
end

section
variable {X : Cx} {k : Kx} {E : L2.St → XK}
/-- a comprehension over the list that the name in slot si owns -/
def lcB (si : Nat) (tg : Tg) (t : M Bool) (f : M R) (vs : List Nat) : M R := fun Γ => match Γ[si]? with
  | some (.own kk (.lst ds)) => (match lcL tg t f vs ds [] (Γ.set si .un) with
    | .ok acc Γ' => .ok (.own (.lst acc)) ((backE (Γ.set si .un) Γ' vs).set si (.own kk (.lst ds)))
    | _ => .bad)
  | _ => .bad
theorem lcB_ok {si : Nat} {g : TG} {tg : Tg} {t : M Bool} {f : M R} {vs : List Nat} (ht : TgS k g tg vs) : ∀ σ H Q, tE k (lcB si tg t f vs) E σ H Q → tLc (iList k.K (tVar si)) g (tT k t E0') (tE k f E0') vs σ H Q := by
  rintro σ H1 Q ⟨cc, ΓΓ, F1, WW, so0, po1⟩
  unfold lcB at po1
  split at po1
  rotate_left
  · exact po1.elim
  rename_i kk ds hg
  split at po1
  rotate_left
  · exact po1.elim
  rename_i accF ΓF hres
  obtain ⟨q, hσ, hA, hWq, xs, hq, dtx⟩ := so0.sl si _ hg
  have hsi : si < ΓΓ.length := (List.getElem?_eq_some_iff.mp hg).1
  refine ⟨_, hσ, q, rfl, ⟨xs, SqL.of hq⟩, ?_⟩
  intro D hD
  have hqD : q ≠ D := ne_of_none hq hD
  have gq : cc.G q = none := by
    cases z : cc.G q with
    | none => rfl
    | some o => have := (so0.fr q o z).2.2; rw [hWq] at this; cases this
  have fq : F1 q = none := (so0.ow q _ hWq).1
  generalize hc : addG cc q (.lst xs) = c
  generalize hΓ1 : ΓΓ.set si .un = Γ1 at hres po1
  generalize hW1 : updW WW q none = W1
  have cG : ∀ a, a ≠ q → c.G a = cc.G a := fun a ha => by rw [← hc]; exact upd_ne ha
  have cq : c.G q = some (.lst xs) := by rw [← hc]; exact upd_same
  have cA : c.A = cc.A := by rw [← hc]; rfl
  have so1 : SOk k c Γ1 σ F1 W1 H1 := by
    refine ⟨so0.sub, fun a o e => ?_, fun a j e => ?_, fun j s hj => ?_, ?_⟩
    · by_cases ha : a = q
      · subst ha
        rw [cq] at e
        cases e
        exact ⟨hq, fq, by rw [← hW1]; exact updW_same⟩
      · rw [cG a ha] at e
        rw [← hW1, updW_ne ha]
        exact so0.fr a o e
    · rw [← hW1] at e
      by_cases ha : a = q
      · subst ha; rw [updW_same] at e; cases e
      · rw [updW_ne ha] at e; exact so0.ow a j e
    · rw [← hΓ1] at hj
      rcases set_cases hj with ⟨rfl, rfl⟩ | ⟨hne, hj⟩
      · trivial
      · have q0 := (so0.sl j s hj).keep (F' := F1) (W' := W1) (H' := H1) (Same.refl F1) fun a ha => ⟨by
          rw [← hW1, updW_ne (fun z => by rw [z, hWq] at ha; cases ha; exact hne rfl)]; exact ha, rfl⟩
        cases s with
        | un => trivial
        | val d => exact q0
        | own kk o => obtain ⟨p, h1, h2, h3⟩ := q0; exact ⟨p, h1, fun j z => by rw [cA]; exact h2 j z, h3⟩
    · rw [← hΓ1, List.length_set]; exact so0.len
  have fD : F1 D = none := so1.sub.free hD
  have gD : c.G D = none := by
    cases q : c.G D with
    | none => rfl
    | some o => have := (so1.fr D o q).1; rw [hD] at this; cases this
  have wD : W1 D = none := by
    cases q : W1 D with
    | none => rfl
    | some o => obtain ⟨_, o, h⟩ := so1.ow D _ q; rw [hD] at h; cases h
  refine ⟨fun i m H => m = ds.length - i ∧ i ≤ ds.length ∧ ∃ accV accD Γ F W, SOk k (addG c D (.lst accV)) (wipeE Γ vs) (wipe σ vs) F W H ∧ Same F1 F ∧ DtAll F accV accD ∧ lcL tg t f vs (ds.drop i) accD Γ = .ok accF ΓF,
    ⟨ds.length, by simp, Nat.zero_le _, [], [], Γ1, F1, W1, ?_, Same.refl F1, .nil, hres⟩, ?_⟩
  · have s1 : SOk k c Γ1 σ F1 W1 (upd H1 D (.lst [])) := by
      refine so1.step (Same.refl F1) (fun b u e => ?_) (fun a o e => ?_) (fun a i e => ?_) (fun a i e => ?_)
      · rw [upd_ne (ne_of_none e fD)]; exact so1.sub b u e
      · obtain ⟨h1, h2, h3⟩ := so1.fr a o e
        exact ⟨by rw [upd_ne (ne_of_none h1 hD)]; exact h1, h2, h3⟩
      · obtain ⟨h1, o, h2⟩ := so1.ow a i e
        exact ⟨h1, o, by rw [upd_ne (ne_of_none h2 hD)]; exact h2⟩
      · obtain ⟨h1, o, h2⟩ := so1.ow a _ e
        exact ⟨e, upd_ne (ne_of_none h2 hD)⟩
    have s2 : SOk k (addG c D (.lst [])) Γ1 σ F1 W1 (upd H1 D (.lst [])) := s1.regc rfl fun a o e => by
      by_cases ha : a = D
      · subst ha
        have e : upd c.G a (.lst []) a = some o := e
        rw [upd_same] at e ⊢
        exact ⟨e, fD, wD⟩
      · have e : upd c.G D (.lst []) a = some o := e
        rw [upd_ne ha] at e
        exact s1.fr a o e
    exact s2.wiped (wipe_length _ _) fun j hj => wipe_get hj
  · rintro i m H ⟨rfl, hi, accV, accD, Γ2, F2, W2, so2, sm2, dtA, hl⟩
    have hDl : H D = some (.lst accV) ∧ F2 D = none ∧ W2 D = none := so2.fr D _ (by show upd c.G D (.lst accV) D = _; exact upd_same)
    have hq2 : H q = some (.lst xs) := (so2.fr q _ (by show upd c.G D (.lst accV) q = _; rw [upd_ne hqD]; exact cq)).1
    have fq2 : F2 q = none ∧ W2 q = none := (so2.fr q _ (by show upd c.G D (.lst accV) q = _; rw [upd_ne hqD]; exact cq)).2
    by_cases hlt : i < ds.length
    · refine .inr ⟨⟨xs, xs[i]'(by rw [dtx.length]; exact hlt), SqL.of hq2, by simp⟩, fun H' => ∃ accV accD Γ F W, SOk k (addG c D (.lst accV)) (wipeE Γ vs) (wipe σ vs) F W H' ∧ Same F1 F ∧ DtAll F accV accD ∧ lcL tg t f vs (ds.drop (i + 1)) accD Γ = .ok accF ΓF,
        fun H' h' => ⟨ds.length - (i + 1), by omega, rfl, hlt, h'⟩, fun x H' y => ?_⟩
      obtain ⟨F3, d, so3, sm3, ed, dt⟩ : ∃ F3 d, SOk k (addG c D (.lst accV)) (wipeE Γ2 vs) (wipe σ vs) F3 W2 H' ∧ Same F2 F3 ∧ ds[i]? = some d ∧ Dt F3 x d := by
        obtain ⟨rfl, y⟩ := y
        have e := y xs (SqL.of hq2)
        obtain ⟨d, e1, e2⟩ := dtx.getV e
        exact ⟨F2, d, so2, Same.refl _, e1, e2.mono sm2⟩
      have e1 : ds.drop i = d :: ds.drop (i + 1) := by
        rw [List.drop_eq_getElem_cons hlt]
        have : ds[i] = d := by rw [List.getElem?_eq_getElem hlt] at ed; exact Option.some.inj ed
        rw [this]
      rw [e1] at hl
      unfold lcL at hl
      split at hl
      · cases hl
      rename_i Γ4 et
      refine ht _ _ _ F3 W2 H' x d Γ4 _ so3 dt et fun σ4 so4 h4 l4 => ⟨?_, ?_⟩
      · have l4' : σ4.length = σ.length := by rw [l4, wipe_length]
        refine wipe_ext l4' fun j hj => ?_
        rw [h4 j hj, wipe_get hj]
      · have l4' : σ4.length = σ.length := by rw [l4, wipe_length]
        have h4' : ∀ j, j ∉ vs → σ4[j]? = σ[j]? := fun j hj => by rw [h4 j hj, wipe_get hj]
        refine ⟨_, Γ4, F3, W2, so4, ?_⟩
        unfold M.bnd at hl
        cases e : t Γ4 with
        | exc n g => rw [e] at hl; cases hl
        | bad => rw [e] at hl; cases hl
        | ok b Γ5 =>
          rw [e] at hl
          intro b' F5 W5 H5 so5 sm5 r5
          subst r5
          cases b' with
          | false =>
            refine iteF ⟨accV, accD, Γ5, F5, W5, ?_, (sm2.trans sm3).trans sm5, dtA.mono (sm3.trans sm5), hl⟩
            exact so5.wiped (by rw [wipe_length, l4']) fun j hj => by rw [wipe_get hj, h4' j hj]
          | true =>
            refine iteT ⟨_, Γ5, F5, W5, so5, ?_⟩
            have hl : M.bnd f (fun r => (stD r).bnd fun d => if accD.length < 1000000 then lcL tg t f vs (ds.drop (i + 1)) (accD ++ [d]) else M.bad) Γ5 = .ok accF ΓF := hl
            unfold M.bnd at hl
            cases e : f Γ5 with
            | exc n g => rw [e] at hl; cases hl
            | bad => rw [e] at hl; cases hl
            | ok r Γ6 =>
              rw [e] at hl
              intro y F6 W6 H6 so6 sm6 r6
              have hl : M.bnd (stD r) (fun d => if accD.length < 1000000 then lcL tg t f vs (ds.drop (i + 1)) (accD ++ [d]) else M.bad) Γ6 = .ok accF ΓF := hl
              have pz : Post k (addG c D (.lst accV)) σ4 F6 E0' (fun _ _ _ _ (_ : Unit) (_ : List PyData) => True) (M.bnd (stD r) (fun d => if accD.length < 1000000 then lcL tg t f vs (ds.drop (i + 1)) (accD ++ [d]) else M.bad) Γ6) (fun _ _ => True) := by
                rw [hl]; exact fun _ _ _ _ _ _ _ => trivial
              obtain ⟨d', Γ7, F7, W7, so7, sm7, dt7, e7, _⟩ := st_step so6 r6 pz
              unfold M.bnd at hl
              rw [e7] at hl
              have hl : (if accD.length < 1000000 then lcL tg t f vs (ds.drop (i + 1)) (accD ++ [d']) else M.bad) Γ7 = .ok accF ΓF := hl
              have hD7 : H6 D = some (.lst accV) ∧ F7 D = none ∧ W7 D = none := so7.fr D _ (by show upd c.G D (.lst accV) D = _; exact upd_same)
              by_cases hz : accD.length < 1000000
              · rw [if_pos hz] at hl
                refine ⟨accV, hD7.1, ?_, accV ++ [y], accD ++ [d'], Γ7, F7, W7, ?_, ((sm2.trans sm3).trans sm5).trans (sm6.trans sm7), (dtA.mono (((sm3.trans sm5).trans sm6).trans sm7)).append (.cons dt7 .nil), hl⟩
                · rw [dtA.length, sizeLine_eq]; omega
                · have s8 : SOk k (addG c D (.lst (accV ++ [y]))) Γ7 σ4 F7 W7 (upd H6 D (.lst (accV ++ [y]))) := by
                    have fr' : ∀ a o, (addG c D (.lst (accV ++ [y]))).G a = some o → upd H6 D (.lst (accV ++ [y])) a = some o ∧ F7 a = none ∧ W7 a = none := fun a o ea => by
                      have ea : upd c.G D (.lst (accV ++ [y])) a = some o := ea
                      by_cases ha : a = D
                      · subst ha
                        rw [upd_same] at ea ⊢
                        exact ⟨ea, hD7.2⟩
                      · rw [upd_ne ha] at ea ⊢
                        exact so7.fr a o (by show upd c.G D (.lst accV) a = _; rw [upd_ne ha]; exact ea)
                    refine ⟨fun b u e => ?_, fr', fun a i e => ?_, fun j s hj => ?_, so7.len⟩
                    · rw [upd_ne (fun z => by rw [z, hD7.2.1] at e; cases e)]; exact so7.sub b u e
                    · obtain ⟨q1, o, q2⟩ := so7.ow a i e
                      refine ⟨q1, ?_⟩
                      by_cases ha : a = D
                      · subst ha; exact ⟨_, upd_same⟩
                      · exact ⟨o, by rw [upd_ne ha]; exact q2⟩
                    · have q := (so7.sl j s hj).keep (F' := F7) (W' := W7) (H' := upd H6 D (.lst (accV ++ [y]))) (Same.refl F7) fun a ha => ⟨ha, upd_ne fun z => by rw [z, hD7.2.2] at ha; cases ha⟩
                      cases s with
                      | un => trivial
                      | val d => exact q
                      | own kk o => exact q
                  exact s8.wiped (by rw [wipe_length, l4']) fun j hj => by rw [wipe_get hj, h4' j hj]
              · rw [if_neg hz] at hl; cases hl
    · have e : i = ds.length := by omega
      subst e
      rw [List.drop_length] at hl
      have hl : (Rs.ok accD Γ2 : Rs (List PyData)) = .ok accF ΓF := hl
      injection hl with h1 h2
      subst h1 h2
      refine .inl ⟨⟨xs, SqL.of hq2, by rw [dtx.length]; exact Nat.le_refl _⟩, ?_⟩
      refine po1 (.ref D) F2 (updW (updW W2 D (some .tmp)) q (some (.slot si))) H ?_ sm2 ⟨D, rfl, by show updW (updW W2 D (some .tmp)) q (some (.slot si)) D = _; rw [updW_ne (Ne.symm hqD)]; exact updW_same, accV, hDl.1, dtA⟩
      have s3 : SOk k (addG c D (.lst accV)) (backE Γ1 Γ2 vs) σ F2 W2 H := so2.backed fun j d hj => by
        obtain ⟨v, q1, q2⟩ := so1.sl j _ hj
        exact ⟨v, q1, q2.mono sm2⟩
      refine ⟨s3.sub, fun a o e => ?_, fun a j e => ?_, fun j s hj => ?_, ?_⟩
      · have haq : a ≠ q := fun z => by rw [z, gq] at e; cases e
        have e' := e
        rw [← cG a haq] at e'
        have ha : a ≠ D := fun z => by rw [z, gD] at e'; cases e'
        rw [updW_ne haq, updW_ne ha]
        exact s3.fr a o (by show upd c.G D (.lst accV) a = _; rw [upd_ne ha]; exact e')
      · by_cases haq : a = q
        · subst haq; exact ⟨fq2.1, _, hq2⟩
        · rw [updW_ne haq] at e
          by_cases ha : a = D
          · subst ha; exact ⟨hDl.2.1, _, hDl.1⟩
          · rw [updW_ne ha] at e; exact s3.ow a j e
      · rcases set_cases hj with ⟨rfl, rfl⟩ | ⟨hne, hj⟩
        · exact ⟨q, hσ, hA, updW_same, xs, hq2, dtx.mono sm2⟩
        · have q0 := (s3.sl j s hj).keep (F' := F2) (W' := updW (updW W2 D (some .tmp)) q (some (.slot si))) (H' := H) (Same.refl F2) fun a ha => ⟨by
            rw [updW_ne (fun z => by rw [z, fq2.2] at ha; cases ha), updW_ne (fun z => by rw [z, hDl.2.2] at ha; cases ha)]; exact ha, rfl⟩
          cases s with
          | un => trivial
          | val d => exact q0
          | own kk o => obtain ⟨p, h1, h2, h3⟩ := q0; exact ⟨p, h1, fun j z => by have := h2 j z; rw [this]; exact congrFun cA j, h3⟩
      · rw [List.length_set]; exact s3.len
theorem se_lcB {si : Nat} {elt tgE iter : Expr} {ifs : List Expr} {scope : Scope} {own : List (Str × Nat)} {pos : Pos} {g : TG} {tg : Tg} {t : M Bool} {f : M R} {vs : List Nat} (hk : X.K = k.K) (hv : own.map (·.2) = vs) (hc : X.calm = true) (hN : X.N.Nodup) (hi : PE X iter (tVar si)) (ok : BlkOk X.N X.env.scope scope own)
    (hg : ∀ (s : Shared) (H : Hp) (C : Addr) (cl : List (Str × Addr)) (fp : List Addr), PG (X.blk s H scope (compEnvC scope cl C X.env) fp) tgE g) (ht : TgS k g tg vs)
    (htt : ∀ (s : Shared) (H : Hp) (C : Addr) (cl : List (Str × Addr)) (fp : List Addr), PTs (X.blk s H scope (compEnvC scope cl C X.env) fp) ifs (tT k t E0'))
    (he : ∀ (s : Shared) (H : Hp) (C : Addr) (cl : List (Str × Addr)) (fp : List Addr), PE (X.blk s H scope (compEnvC scope cl C X.env) fp) elt (tE k f E0')) (hs : ∀ x, foldedSetIterable iter X.env x = pure x := by intro _; rfl) :
    PE X (.ListComp elt [⟨tgE, iter, ifs, 0⟩] scope pos) (tE k (lcB si tg t f vs) E) := by
  subst hv
  have h := pe_lc (pos := pos) hc hN (pi_list (tg := tgE) hi) ok hg htt he hs
  rw [hk] at h
  exact h.imp (lcB_ok ht)
end
def m_subsetsB : M Fl := sSeq (sAsg 1 (mkLst (aLast (sto (mkLst (aNil)))))) (sSeq (sFor (iRg rg2 (aCons (eC (.int 1)) (aLast (bin dAdd (eVar 0) (eC (.int 1)))))) (tgN 2) (augM 1 (lcB 1 (tgN 3) (M.ret true) (bin dAdd (eVar 3) (mkLst (aLast (sto (eVar 2))))) [3]))) (sRet (eVar 1)))
def g_subsetsB : En → Rs R := fnP m_subsetsB 3
def m_sets_with_lengthB : M Fl := sSeq (sIf (mNot (tst (callV 3 g_is_int (aCons (sto (eVar 0)) (aCons (sto (eC (.int 1))) (aLast (sto (eC (.int 6))))))))) (sRaise 2) (sNx)) (sSeq (sIf (mNot (tst (callV 3 g_is_int (aCons (sto (eVar 1)) (aCons (sto (eC (.int 0))) (aLast (sto (eC (.int 40))))))))) (sRaise 2) (sNx)) (sSeq (sAsg 2 (eC (.int 0))) (sSeq (sFor (iSq (callV 1 g_subsetsB (aLast (sto (eVar 0))))) (tgN 3) (sIf (mAnd (tst (bin dNe (eVar 3) (mkLst (aNil)))) (tst (bin dEq (callV 1 g_length_of (aLast (sto (eVar 3)))) (eVar 1)))) (augM 2 (eC (.int 1))) (sNx))) (sRet (eVar 2)))))
def g_sets_with_lengthB : En → Rs R := fnX m_sets_with_lengthB 2
end Rt
namespace Rt
open PySem PySem.Spec PyProof.Rows L2
section
variable {P : Program} {w : World} {A : Around} {E : Value → Shared → Prop} {s : Shared}
theorem SetOf_at {h h' : Heap} {a : Addr} {S : Str → Bool} {n : Nat} (x : h.SetOf (strKind P w) a S n) (e : ∀ o, h.get? a = some o → h'.get? a = some o) : h'.SetOf (strKind P w) a S n := by
  obtain ⟨o, es, ep, t, ho, r⟩ := x
  exact ⟨o, es, ep, t, e o ho, r⟩
theorem set_update_strs {I : Addr} {fp wr : List Addr} {G : Array GenState → Array GenState → Prop} {n : Nat} {Pv : Nat → Value → Prop} {St : Nat → Shared → Prop} {R : Result → Shared → Prop}
    (W : WalksS P w A.in1 I fp wr G n Pv St) (S : Addr) (hSf : S ∉ fp) (ns : List Str) (hn : n = ns.length) (hb : ns.length + 1 < scanBound) (nd : ns.Nodup) (hval : ∀ i v, Pv i v → ∃ k t, ns[i]? = some k ∧ v = .str k t) :
    ∀ (k i : Nat) (s : Shared), n - i = k → i ≤ n → St i s → s.heap.SetOf (strKind P w) S (fun j => decide (j ∈ ns.take i)) i →
      (∀ s', Moved (S :: wr) G s s' → s'.heap.SetOf (strKind P w) S (fun j => decide (j ∈ ns)) n → R (.ok (.ret .none)) s') →
      codeAny (model P w) A (.builtin "set.update.loop" ⟨[.ref S, .ref I], []⟩) R s := by
  have hSw : S ∉ wr := fun h => hSf (W.sub _ h)
  have hsub : ∀ b ∈ wr, b ∈ S :: wr := fun b hb => List.mem_cons_of_mem _ hb
  intro k
  induction k with
  | zero =>
    intro i s hk' hi hst hS hR
    have hin : i = n := by omega
    subst hin
    refine codeAny_builtin F.entry_set_update_loop ?_
    rw [Around.under_plainId F.plain_set_update_loop _]
    show wpAny _ A.in1 (pyNext (.ref I) >>= _) _ _ s
    refine wpAny_bind (W.done s _ _ hst fun s' hm => ?_)
    show wpAny _ A.in1 (ret Value.none) _ _ s'
    have e : ns.take i = ns := List.take_of_length_le (by omega)
    rw [e] at hS
    exact wpAny_pure (hR s' (hm.mono hsub) (SetOf_at hS fun o e => hm.heap S o hSw e))
  | succ k ih =>
    intro i s hk' hi hst hS hR
    have hlt : i < n := by omega
    refine codeAny_builtin F.entry_set_update_loop ?_
    rw [Around.under_plainId F.plain_set_update_loop _]
    show wpAny _ A.in1 (pyNext (.ref I) >>= _) _ _ s
    refine wpAny_bind (W.item i s _ _ hlt hst fun v s' hP hst' hm => ?_)
    obtain ⟨z, t, hz, rfl⟩ := hval i v hP
    have hS' : s'.heap.SetOf (strKind P w) S (fun j => decide (j ∈ ns.take i)) i := SetOf_at hS fun o e => hm.heap S o hSw e
    show wpAny _ A.in1 (holding [Value.str z t] (setAdd S (.str z t)) >>= _) _ _ s'
    refine wpAny_bind (wpAny_holding ?_)
    unfold setAdd
    refine wpAny_holding ?_
    refine wpAny_bind ((strKind P w).pyHash (k := z) (strKind_is _ _ _ _) ?_)
    refine wpAny_setAddHashed_of (knd := strKind P w) (s := { s' with toks := s'.toks + 1 }) (strKind_is _ _ _ _) rfl hS' (by omega) fun h' hsb hS2 => ?_
    have hnz : z ∉ ns.take i := fun hzm => by
      obtain ⟨j, hj⟩ := List.mem_iff_getElem?.mp hzm
      rw [List.getElem?_take] at hj
      by_cases hji : j < i
      · rw [if_pos hji] at hj
        obtain ⟨hjl, ej⟩ := List.getElem?_eq_some_iff.mp hj
        obtain ⟨hil, ei⟩ := List.getElem?_eq_some_iff.mp hz
        exact absurd (ej.trans ei.symm) (List.pairwise_iff_getElem.mp nd j i hjl hil hji)
      · rw [if_neg hji] at hj
        cases hj
    have hS3 : h'.SetOf (strKind P w) S (fun j => decide (j ∈ ns.take (i + 1))) (i + 1) := SetOf_congr hS2 (fun j => by
      rw [List.take_add_one, hz]
      simp [List.mem_append]) (by simp [hnz])
    refine wpAny_pure ⟨plainId_quiet F.plain_set_update_loop _, ih (i + 1) _ (by omega) hlt (W.frame _ s' _ _ hst' (Nat.le_succ _) fun b hb o e => ?_) hS3 fun s'' hm'' hS'' => ?_⟩
    · rw [hsb.2 b (fun h : b = S => hSf (by rw [← h]; exact hb))]; exact e
    · refine hR s'' (Moved.trans W.gtrans ((hm.mono hsub).then_heap (Nat.le_succ _) fun b o hb e => ?_) hm'') hS''
      rw [hsb.2 b (fun h : b = S => hb (by rw [h]; exact List.mem_cons_self))]; exact e
theorem StrsAre.str_at {vs : List Value} {ns : List Str} (h : StrsAre vs ns) : ∀ (i : Nat) (v : Value), vs[i]? = some v → ∃ k t, ns[i]? = some k ∧ v = .str k t := by
  induction h with
  | nil => intro i v e; simp at e
  | cons y t r ih =>
    intro i v e
    cases i with
    | zero => simp at e; exact ⟨y, t, rfl, e.symm⟩
    | succ i => simpa using ih i v (by simpa using e)
theorem StrsAre.len {vs : List Value} {ns : List Str} (h : StrsAre vs ns) : vs.length = ns.length := by
  induction h with
  | nil => rfl
  | cons y t r ih => simp [ih]
theorem set_strs {l : Addr} {items : Array Value} {ns : List Str} {Q : Value → Shared → Prop} (hh : A.handled = none) (hl : s.heap.IsList l items) (hi : StrsAre items.toList ns) (hb : ns.length + 1 < scanBound) (nd : ns.Nodup)
    (h : ∀ h' tk, h'.SetOf (strKind P w) s.heap.objs.size (fun j => decide (j ∈ ns)) ns.length → (∀ b o, s.heap.get? b = some o → h'.get? b = some o) → Q (.ref s.heap.objs.size) { s with heap := h', toks := tk }) :
    wpAny (model P w) A (call (.type "set") [.ref l]) Q E s := by
  have hz : items.size = ns.length := by
    have q := StrsAre.len hi
    rw [Array.length_toList] at q
    exact q
  obtain ⟨ol, hol, _⟩ := id hl
  have lS : l < s.heap.objs.size := Heap.lt_size hol
  refine set_call (fun h' => h'.SetOf (strKind P w) s.heap.objs.size (fun j => decide (j ∈ ns)) ns.length) hl (fun R hR => ?_) fun h' tk g1 kp => h h' tk g1 kp
  have sz : (s.heap.push (setO0 w)).objs.size = s.heap.objs.size + 1 := Heap.size_push ..
  have nI : l ≠ (s.heap.push (setO0 w)).objs.size := by rw [sz]; exact Nat.ne_of_lt (Nat.lt_succ_of_lt lS)
  have nS : s.heap.objs.size ∉ [(s.heap.push (setO0 w)).objs.size, l] := by
    rw [sz]
    intro z
    simp only [List.mem_cons, List.not_mem_nil, or_false] at z
    rcases z with z | z
    · exact absurd z (Nat.ne_of_lt (Nat.lt_succ_self _))
    · exact absurd z (Nat.ne_of_gt lS)
  have l1 : (s.heap.push (setO0 w)).IsList l items := by
    obtain ⟨o, h1, h2⟩ := hl
    exact ⟨o, Heap.get?_push_of_some _ h1, h2⟩
  have new : ((s.heap.push (setO0 w)).push (itO0 l)).SetOf (strKind P w) s.heap.objs.size (fun j => decide (j ∈ ns.take 0)) 0 :=
    SetOf_congr ((setObjOf_fresh (knd := strKind P w) (!w.params.followText "set-order")).setOf (Heap.get?_push_of_some _ (Heap.get?_push_size _ rfl)) (by decide)) (fun x => by simp) rfl
  refine set_update_strs (A := A.in1.in1) ((Walks.list (A := A.in1.in1.in1) (by simp [hh]) (s.heap.push (setO0 w)).objs.size l nI items).toS) s.heap.objs.size nS ns hz hb nd (fun i v hv => ?_) (items.size - 0) 0 _ (by omega) (Nat.zero_le _)
    ⟨⟨_, Heap.get?_push_size _ rfl, rfl, rfl⟩, l1.push _⟩ new fun s' hm hS => ?_
  · exact StrsAre.str_at hi i v (by rw [Array.getElem?_toList]; exact hv)
  · obtain ⟨h', g, d, tk, os⟩ := s'
    obtain rfl : g = s.gens := hm.gens
    obtain rfl : d = s.drawn := hm.drawn
    obtain rfl : os = s.os := hm.os
    rw [hz] at hS
    refine hR h' tk hS fun b o e => ?_
    have b0 : b < s.heap.objs.size := Heap.lt_size e
    refine hm.heap b o ?_ (Heap.get?_push_of_some _ (Heap.get?_push_of_some _ e))
    intro z
    simp only [List.mem_cons, List.not_mem_nil, or_false] at z
    rcases z with z | z
    · exact absurd z (Nat.ne_of_lt b0)
    · rw [sz] at z; exact absurd z (Nat.ne_of_lt (Nat.lt_succ_of_lt b0))
end
/-- len(set(xs)), xs a list of strs that are unlike -/
def tLenSetS (K : PySem.W.Frag) (ta : TE) : TE := fun σ H Q => ta σ H fun x H1 => ∃ (l : Addr) (ns : List Str), x = .ref l ∧ SqL K H1 l (ns.map V.str) ∧ ns.Nodup ∧ ns.length ≤ 4000 ∧ Q (.int (ns.length : Nat)) H1
theorem strsAre_of' : ∀ {ys : List Str} {us : List Value}, Vals (ys.map V.str) us → StrsAre us ys
  | [], _, .nil => .nil
  | y :: ys, _, .cons r t => by
    obtain ⟨k, rfl⟩ := r
    exact .cons y k (strsAre_of' t)
theorem pe_lenSetS {X : Cx} {a : Expr} {ta : TE} {p p2 q pos : Pos} (hg : Gl X "len") (hm : X.mg "len" = none) (hg2 : Gl X "set") (hm2 : X.mg "set" = none) (ha : PE X a ta) (hc : X.calm = true)
    (na : starEach [a] X.env = (false, eval a X.env) :: starEach [] X.env := by rfl) : PE X (.Call (.Name "len" p) [.Call (.Name "set" p2) [a] [] q] [] pos) (tLenSetS X.K ta) := by
  refine ⟨fun pins s σ H Q I h => ?_⟩
  refine Call_ (ld_blt I hg hm boot_len ?_)
  refine PyProof.Rows.callWith_builtin1 (PyProof.Rows.args_cons ?_ rfl) rfl rfl
  refine Call_ (ld_blt I hg2 hm2 boot_set ?_)
  refine PyProof.Rows.callWith_type1 (PyProof.Rows.args_cons (thn (ha.run pins s σ H _ I h) fun v s1 ⟨x, H1, I1, r1, q1⟩ => PyProof.Rows.args_nil ?_) na) na rfl
  obtain ⟨l, ns, rfl, hq, hnd, hl, q1⟩ := q1
  cases r1
  obtain ⟨its, r, pl, hz⟩ := I1.list hq
  refine set_strs (I1.ok.hd hc) pl.isList (by simpa using strsAre_of' r) (by unfold scanBound; omega) hnd fun h' tk hS kp => ?_
  refine PyProof.Rows.args_nil ?_
  obtain ⟨o, es, ep, t, ho, hex, hd, _, _, _, hf, hn⟩ := hS
  have I2 : Inv X pins σ H1 { s1 with heap := h', toks := tk } := I1.kept kp
  exact call_len_set ho hex hd hf (by rw [hn] <;> omega) ⟨.int ns.length, H1, I2.tok _, ⟨_, by rw [hn]⟩, q1⟩
def lenSet (f : M R) : M R := f.bnd fun r => un1 (fun d => match d with
  | .list ds => (match strsOf ds with
    | some ns => if ns.Nodup ∧ ns.length ≤ 4000 then some (.val (.int (ns.length : Nat))) else none
    | none => none)
  | _ => none) r
theorem se_lenSet {X : Cx} {k : Kx} {E : L2.St → XK} {f : M R} {a : Expr} {p p2 q pos : Pos} (hk : X.K = k.K) (hc : X.calm = true) (hg : Gl X "len") (hm : X.mg "len" = none) (hg2 : Gl X "set") (hm2 : X.mg "set" = none) (ha : PE X a (tE k f E)) (na : starEach [a] X.env = (false, eval a X.env) :: starEach [] X.env := by rfl) :
    PE X (.Call (.Name "len" p) [.Call (.Name "set" p2) [a] [] q] [] pos) (tE k (lenSet f) E) :=
  (pe_lenSetS hg hm hg2 hm2 ha hc na).imp fun σ H Q ⟨c, Γ, F, W, so, po⟩ => ⟨c, Γ, F, W, so, po.seq fun r Γ1 x F1 W1 H1 so1 sm1 r1 po1 => by
    unfold un1 at po1
    split at po1
    · rename_i d hd
      have rd := so1.rd r1 hd
      split at po1
      · rename_i res hr
        dsimp only at hr
        split at hr
        · rename_i ds
          split at hr
          · rename_i ns hi
            split at hr
            · rename_i hs
              cases hr
              rw [strsOf_ok hi] at rd
              obtain ⟨p, vs, rfl, hp, dt⟩ := rd.lst so1.sub
              rw [dt.strs] at hp
              exact ⟨p, ns, rfl, SqL.of hp, hs.1, hs.2, po1 _ F1 W1 H1 so1 (Same.refl F1) (.int _)⟩
            · cases hr
          · cases hr
        · cases hr
      · exact po1.elim
    · exact po1.elim⟩
end Rt
namespace Rt
open PySem PySem.Spec PyProof.Rows L2
/-! ### sets of nested tuples of ints: the ways of the library's flat ones (HandS/TupSets), turned to nested keys -/
mutual
def numK : NestedKey → Prop
  | .none => True
  | .num _ => True
  | .text _ => False
  | .tup ks => numKs ks
def numKs : List NestedKey → Prop
  | [] => True
  | k :: ks => numK k ∧ numKs ks
end
abbrev nhash (w : World) (k : NestedKey) : Int := k.hash w
abbrev IsN (h : Heap) (k : NestedKey) (a : Addr) : Prop := NestedIs h k (.ref a) ∧ k.depth ≤ 8 ∧ numK k
section
variable {P : Program} {w : World}
def NoCls (P : Program) (w : World) (n : Nat) (s : Shared) (v : Value) : Prop := ∀ (A : Around) (E : Value → Shared → Prop) (Q : Bool → Shared → Prop), Q false s → wpAny (model P w) A (ofAClassStatement n v) Q E s
def ByVal (P : Program) (w : World) (n : Nat) (s : Shared) (v : Value) : Prop := ∀ (A : Around) (E : Value → Shared → Prop) (Q : Bool → Shared → Prop), Q true s → wpAny (model P w) A (hashByValue n v) Q E s
theorem NoCls.tuple {n : Nat} {s : Shared} {a : Addr} {o : Obj} {vs : Array Value} {m : Nat} (ho : s.heap.get? a = some o) (hc : o.cls = .type "tuple") (hd : o.data = .seq vs m) (hq : ∀ v ∈ vs.toList, NoCls P w n s v) : NoCls P w (n + 1) s (.ref a) := fun A E Q h => by
  have ty : s.TypeIs (.ref a) "tuple" := ⟨o, ho, hc⟩
  unfold ofAClassStatement
  refine wpAny_bind (wpAny_typeOf ty ?_)
  dsimp only
  have e : (("tuple" : String) == "tuple") = true := by decide
  simp only [e, if_true, Bool.not_true, Bool.false_eq_true, if_false]
  try refine wpAny_bind (wpAny_pure ?_)
  try simp only [Bool.not_true, Bool.false_eq_true, if_false]
  show wpAny _ _ (seqItems? (.ref a) >>= _) _ _ s
  refine wpAny_bind (wpAny_seqItems ho hd ?_)
  dsimp only
  refine wpAny_bind ?_
  show wpAny _ _ (forIn vs _ _) _ _ s
  rw [← Array.forIn_toList]
  refine wpAny_forIn_list _ (fun rest r s' => r.1 = none ∧ s' = s ∧ ∀ v ∈ rest, NoCls P w n s v) _ ?_ ?_ _ _ ⟨rfl, rfl, hq⟩
  · rintro v rest r s' ⟨hr, rfl, all⟩
    refine wpAny_bind (all v List.mem_cons_self _ _ _ ?_)
    simp only [Bool.false_eq_true, if_false]
    exact wpAny_pure ⟨rfl, rfl, fun u hu => all u (List.mem_cons_of_mem _ hu)⟩
  · rintro ⟨r1, r2⟩ s' ⟨hr, rfl, _⟩
    simp only at hr
    subst hr
    exact wpAny_pure h
theorem ByVal.tuple {n : Nat} {s : Shared} {a : Addr} {o : Obj} {vs : Array Value} {m : Nat} (ho : s.heap.get? a = some o) (hc : o.cls = .type "tuple") (hd : o.data = .seq vs m) (hq : ∀ v ∈ vs.toList, ByVal P w n s v) : ByVal P w (n + 1) s (.ref a) := fun A E Q h => by
  have ty : s.TypeIs (.ref a) "tuple" := ⟨o, ho, hc⟩
  unfold hashByValue
  refine wpAny_bind (wpAny_specialOf ty F.slot_tuple_hash.lookup ?_)
  show wpAny _ _ (seqItems? (.ref a) >>= _) _ _ s
  refine wpAny_bind (wpAny_seqItems ho hd ?_)
  refine wpAny_bind ?_
  show wpAny _ _ (forIn vs _ _) _ _ s
  rw [← Array.forIn_toList]
  refine wpAny_forIn_list _ (fun rest r s' => r.1 = none ∧ s' = s ∧ ∀ v ∈ rest, ByVal P w n s v) _ ?_ ?_ _ _ ⟨rfl, rfl, hq⟩
  · rintro v rest r s' ⟨hr, rfl, all⟩
    refine wpAny_bind (all v List.mem_cons_self _ _ _ ?_)
    simp only [Bool.not_true, Bool.false_eq_true, if_false]
    exact wpAny_pure ⟨rfl, rfl, fun u hu => all u (List.mem_cons_of_mem _ hu)⟩
  · rintro ⟨r1, r2⟩ s' ⟨hr, rfl, _⟩
    simp only at hr
    subst hr
    exact wpAny_pure h
theorem NoCls.val {n : Nat} {s : Shared} {v : Value} (h : ofAClassStatement n v = pure false) : NoCls P w n s v := fun A E Q q => by
  rw [h]; exact wpAny_pure q
theorem ByVal.val {n : Nat} {s : Shared} {v : Value} (h : hashByValue n v = pure true) : ByVal P w n s v := fun A E Q q => by
  rw [h]; exact wpAny_pure q
mutual
theorem noCls_key : ∀ (k : NestedKey) (v : Value) (n : Nat) (s : Shared), NestedIs s.heap k v → k.depth ≤ n → NoCls P w n s v
  | .none, _, n, s, x, _ => by cases x; exact .val (by cases n <;> rfl)
  | .num i, _, n, s, x, _ => by cases x <;> exact .val (by cases n <;> rfl)
  | .text y, _, n, s, x, _ => by cases x; exact .val (by cases n <;> rfl)
  | .tup ks, _, n, s, x, hn => by
    cases x with
    | tup hg hc hd hk =>
      simp only [NestedKey.depth] at hn
      cases n with
      | zero => omega
      | succ n => exact .tuple hg hc hd (noCls_keys ks _ n s hk (by omega))
theorem noCls_keys : ∀ (ks : List NestedKey) (vs : List Value) (n : Nat) (s : Shared), NestedAll s.heap ks vs → NestedKey.depthAll ks ≤ n → ∀ v ∈ vs, NoCls P w n s v
  | [], _, n, s, x, _, v, hv => by cases x; cases hv
  | k :: ks, _, n, s, x, hn, v, hv => by
    cases x with
    | cons x1 x2 =>
      simp only [NestedKey.depthAll] at hn
      rcases List.mem_cons.mp hv with e | hv
      · rw [e]; exact noCls_key k _ n s x1 (by omega)
      · exact noCls_keys ks _ n s x2 (by omega) v hv
end
mutual
theorem byVal_key : ∀ (k : NestedKey) (v : Value) (n : Nat) (s : Shared), NestedIs s.heap k v → k.depth ≤ n → numK k → ByVal P w n s v
  | .none, _, n, s, x, _, _ => by cases x; exact .val (by cases n <;> rfl)
  | .num i, _, n, s, x, _, _ => by cases x <;> exact .val (by cases n <;> rfl)
  | .text y, _, n, s, x, _, z => False.elim (by simpa [numK] using z)
  | .tup ks, _, n, s, x, hn, z => by
    cases x with
    | tup hg hc hd hk =>
      simp only [NestedKey.depth] at hn
      simp only [numK] at z
      cases n with
      | zero => omega
      | succ n => exact .tuple hg hc hd (byVal_keys ks _ n s hk (by omega) z)
theorem byVal_keys : ∀ (ks : List NestedKey) (vs : List Value) (n : Nat) (s : Shared), NestedAll s.heap ks vs → NestedKey.depthAll ks ≤ n → numKs ks → ∀ v ∈ vs, ByVal P w n s v
  | [], _, n, s, x, _, _, v, hv => by cases x; cases hv
  | k :: ks, _, n, s, x, hn, z, v, hv => by
    cases x with
    | cons x1 x2 =>
      simp only [NestedKey.depthAll] at hn
      simp only [numKs] at z
      rcases List.mem_cons.mp hv with e | hv
      · rw [e]; exact byVal_key k _ n s x1 (by omega) z.1
      · exact byVal_keys ks _ n s x2 (by omega) z.2 v hv
end
end
section
variable {P : Program} {w : World} {A : Around} {E : Value → Shared → Prop} {s : Shared}
theorem hashN {k : NestedKey} {b : Addr} {Q : Bool → Shared → Prop} (hk : IsN s.heap k b) (h : Q true s) : wpAny (model P w) A (hashByValue 8 (.ref b)) Q E s := byVal_key k _ 8 s hk.1 hk.2.1 hk.2.2 A E Q h
theorem eqN {k k' : NestedKey} {a b : Addr} {Q : Bool → Shared → Prop} (hu : A.units + 8 < cLine) (hx : IsN s.heap k a) (hy : IsN s.heap k' b) (h : Q (decide (k = k')) s) : wpAny (model P w) A (eqBool (.ref a) (.ref b)) Q E s :=
  (nestedKind P w).eqBool hu ⟨hx.1, hx.2.1⟩ ⟨hy.1, hy.2.1⟩ h
theorem seenN {k : NestedKey} {b : Addr} {Q : Bool → Shared → Prop} (hk : IsN s.heap k b) {ys : List Value} (hy : ∀ y ∈ ys, ∃ k' c, y = Value.ref c ∧ IsN s.heap k' c) (h : Q false s) :
    wpAny (model P w) A (searchCouldBeSeen (.ref b) ys) Q E s := by
  unfold searchCouldBeSeen
  refine wpAny_bind ?_
  refine wpAny_forIn_list _ (fun rest r s' => r.1 = none ∧ s' = s ∧ ∀ y ∈ rest, ∃ k' c, y = Value.ref c ∧ IsN s.heap k' c) _ ?_ ?_ _ _ ⟨rfl, rfl, hy⟩
  · rintro v rest r s' ⟨hr, rfl, all⟩
    obtain ⟨k', c, rfl, hc⟩ := all v List.mem_cons_self
    have rest' : ∀ y ∈ rest, ∃ k' c, y = Value.ref c ∧ IsN s'.heap k' c := fun u hu => all u (List.mem_cons_of_mem _ hu)
    dsimp only
    by_cases hv : (b == c || (carriedByValue (.ref b) && carriedByValue (.ref c))) = true
    · refine wp_if_pos hv ?_
      exact wpAny_pure ⟨rfl, rfl, rest'⟩
    · refine wp_if_neg hv ?_
      refine wpAny_bind (quiet_key k _ 8 s' hk.1 hk.2.1 _ _ _ ?_)
      simp only [Bool.not_true, Bool.false_eq_true, if_false]
      refine wpAny_bind (quiet_key k' _ 8 s' hc.1 hc.2.1 _ _ _ ?_)
      simp only [Bool.not_true, Bool.false_eq_true, if_false]
      refine wpAny_bind (noCls_key k _ 8 s' hk.1 hk.2.1 _ _ _ ?_)
      simp only [Bool.false_eq_true, if_false]
      refine wpAny_bind (noCls_key k' _ 8 s' hc.1 hc.2.1 _ _ _ ?_)
      simp only [Bool.false_eq_true, if_false]
      exact wpAny_pure ⟨rfl, rfl, rest'⟩
  · rintro ⟨r1, r2⟩ s' ⟨hr, rfl, _⟩
    simp only at hr
    subst hr
    exact wpAny_pure h
def nrows (w : World) (L : List (Addr × NestedKey)) : List (Int × Value) := L.map fun p => (nhash w p.2, Value.ref p.1)
structure SetN (w : World) (h : Heap) (a : Addr) (L : List (Addr × NestedKey)) (es : Array (Int × Value)) (ep : Nat) (t : SetTable) : Prop where
  ob : ∃ o, h.get? a = some o ∧ o.ExactSet ∧ o.data = .set es ep t
  rows : es.toList = nrows w L
  tab : TabOk t (L.map fun p => nhash w p.2)
  nd : (L.map (·.2)).Nodup
  tup : ∀ p ∈ L, IsN h p.2 p.1
  plain : t.plain = true
  led : w.params.followText "set-order" = true ∨ t.led = true
  room : L.length * 5 < t.mask * 3
  few : L.length < 64
variable {a : Addr} {L : List (Addr × NestedKey)} {es : Array (Int × Value)} {ep : Nat} {t : SetTable}
theorem SetN.size (R : SetN w s.heap a L es ep t) : es.size = L.length := by
  have h := congrArg List.length R.rows
  unfold nrows at h
  rw [Array.length_toList, List.length_map] at h
  exact h
theorem SetN.fits (R : SetN w s.heap a L es ep t) : t.fits es.size = true := by
  have h1 := R.tab.sz
  rw [List.length_map] at h1
  have h2 := R.size
  have h3 := R.room
  unfold SetTable.fits SetTable.fill
  rw [R.tab.dm, Bool.and_eq_true, beq_iff_eq, decide_eq_true_eq]
  show t.place.size = es.size ∧ t.place.size + 0 ≤ t.mask
  omega
theorem SetN.entry (R : SetN w s.heap a L es ep t) {i : Nat} {p : Addr × NestedKey} (h : L[i]? = some p) : es[i]? = some (nhash w p.2, Value.ref p.1) := by
  rw [← Array.getElem?_toList, R.rows]
  unfold nrows
  rw [List.getElem?_map, h] <;> rfl
theorem SetN.gw (R : SetN w s.heap a L es ep t) : ¬ t.gaveWay = true := by
  unfold SetTable.gaveWay
  rw [mask_odd R.tab.mok]
  decide
/-- THE SEARCH: from the c-th step of the way on -/
theorem nsearch_from (R : SetN w s.heap a L es ep t) {x : Addr} {k : NestedKey} (hx : IsN s.heap k x) (hu : A.units + 8 < cLine) {K : Nat} (hKf : K < 10 * SetTable.turns t.mask)
    (hK : way t.mask (nhash w k) K ∉ t.place.toList) (hKb : ∀ c, c < K → way t.mask (nhash w k) c ∈ t.place.toList) {Q : SetFound → Shared → Prop}
    (hin : k ∈ L.map (·.2) → Q (.there none) s) (hout : k ∉ L.map (·.2) → Q (.free (way t.mask (nhash w k) K) false) s) :
    ∀ (f c : Nat) (stand : Option SetTable.Probe), stand.getD (t.probeStart (nhash w k)) = nth t.mask (runAt t.mask (SetTable.bits (nhash w k) % (t.mask + 1)) (SetTable.bits (nhash w k))) c → c ≤ K → K - c < f →
      (∀ (i : Nat) p, L[i]? = some p → p.2 = k → ∃ c', c ≤ c' ∧ c' < K ∧ t.place.toList[i]? = some (way t.mask (nhash w k) c')) →
      wpAny (model P w) A (setSearchFrom a (.ref x) (nhash w k) true f stand) Q E s
  | 0, c, stand, _, _, hf, _ => absurd hf (Nat.not_lt_zero _)
  | f + 1, c, stand, hst, hc, hf, hre => by
    obtain ⟨o, ho, hex, hd⟩ := R.ob
    rw [setSearchFrom_succ]
    refine wpAny_bind (wpAny_setState_of ho hd R.fits ?_)
    dsimp only
    refine wp_if_neg R.gw ?_
    try refine wpAny_bind (wpAny_pure ?_)
    have hnd : (nth t.mask (runAt t.mask (SetTable.bits (nhash w k) % (t.mask + 1)) (SetTable.bits (nhash w k))) c).dummy = none := by
      have key : ∀ (n : Nat) (p : SetTable.Probe), p.dummy = none → (nth t.mask p n).dummy = none := by
        intro n
        induction n with
        | zero => intro p h; exact h
        | succ n ih =>
          intro p h
          refine ih (adv t.mask p) ?_
          unfold adv
          split <;> exact h
      exact key c _ rfl
    have sh : ∀ q, nth t.mask (nth t.mask (runAt t.mask (SetTable.bits (nhash w k) % (t.mask + 1)) (SetTable.bits (nhash w k))) c) q = nth t.mask (runAt t.mask (SetTable.bits (nhash w k) % (t.mask + 1)) (SetTable.bits (nhash w k))) (c + q) := fun q => (nth_add t.mask c _ q).symm
    have e1 : ∀ q, (nth t.mask (nth t.mask (runAt t.mask (SetTable.bits (nhash w k) % (t.mask + 1)) (SetTable.bits (nhash w k))) c) q).j = way t.mask (nhash w k) (c + q) := fun q => congrArg SetTable.Probe.j (sh q)
    have spec := go_spec t R.tab.ris R.tab.dm (fun i => (es[i]?.map (·.1)).getD 0) (nhash w k) (10 * SetTable.turns t.mask) (K - c) _ hnd (by omega)
      (fun q hq => by rw [e1]; exact hKb (c + q) (by omega)) (by rw [e1, show c + (K - c) = K by omega]; exact hK)
    have hashAt : ∀ (i : Nat) p, L[i]? = some p → (fun i => (es[i]?.map (·.1)).getD 0) i = nhash w p.2 := fun i p hp => by
      show (es[i]?.map (·.1)).getD 0 = _
      rw [R.entry hp] <;> rfl
    rcases spec with ⟨q, i, hq, hi, hh, hno, hpr⟩ | ⟨hno, hpr⟩
    · -- a candidate
      have hpr' : t.probe (fun i => (es[i]?.map (·.1)).getD 0) (nhash w k) (stand.getD (t.probeStart (nhash w k))) = some (.candidate (way t.mask (nhash w k) (c + q)) i (nth t.mask (runAt t.mask (SetTable.bits (nhash w k) % (t.mask + 1)) (SetTable.bits (nhash w k))) (c + (q + 1)))) := by
        rw [hst, ← e1, ← sh]
        exact hpr
      rw [hpr']
      dsimp only
      rw [e1] at hi
      -- the entry
      have hil : i < L.length := by
        have h1 : i < t.place.toList.length := (List.getElem?_eq_some_iff.mp hi).1
        have h2 := R.tab.sz
        rw [List.length_map] at h2
        rw [Array.length_toList] at h1
        omega
      have hp : L[i]? = some L[i] := List.getElem?_eq_getElem hil
      generalize hpe : L[i] = p at hp
      have hmem : p ∈ L := List.mem_of_getElem? hp
      have hpt := R.tup p hmem
      have rest : wpAny (model P w) A (searchRest a (.ref x) (nhash w k) true f es t (way t.mask (nhash w k) (c + q)) i (nth t.mask (runAt t.mask (SetTable.bits (nhash w k) % (t.mask + 1)) (SetTable.bits (nhash w k))) (c + (q + 1)))) Q E s := by
        unfold searchRest
        rw [R.entry hp]
        dsimp only
        refine wpAny_bind (wpAny_holding (eqN hu hpt hx ?_))
        refine wpAny_bind (wpAny_setState_of ho hd R.fits ?_)
        dsimp only
        by_cases hkk : p.2 = k
        · refine wp_if_pos (by simp [hkk]) ?_
          refine wpAny_pure (hin ?_)
          exact List.mem_map.mpr ⟨p, hmem, hkk⟩
        · refine wp_if_neg (by simp [hkk]) ?_
          try refine wpAny_bind (wpAny_pure ?_)
          rw [sameMem]
          dsimp only
          have hsl : t.slot (way t.mask (nhash w k) (c + q)) = .live i := slot_live R.tab.ris hi
          simp only [if_true, hsl, R.entry hp]
          refine wpAny_bind (wpAny_isSame_ref_self (wpAny_bind (wpAny_pure ?_)))
          simp only [if_true]
          refine wp_if_neg (by simp [hkk]) ?_
          refine nsearch_from R hx hu hKf hK hKb hin hout f (c + (q + 1)) _ rfl (by omega) (by omega) fun i0 p0 h0 hk0 => ?_
          obtain ⟨c', a1, a2, a3⟩ := hre i0 p0 h0 hk0
          refine ⟨c', ?_, a2, a3⟩
          -- it isn't passed
          rcases Nat.lt_or_ge c' (c + q) with z | z
          · exfalso
            refine hno (c' - c) i0 (by omega) (by rw [e1, show c + (c' - c) = c' by omega]; exact a3) ?_
            exact (hashAt i0 p0 h0).trans (congrArg (nhash w) hk0)
          · rcases Nat.lt_or_ge (c + q) c' with y | y
            · omega
            · exfalso
              have ec : c' = c + q := Nat.le_antisymm y z
              rw [ec] at a3
              have s0 := slot_live R.tab.ris a3
              rw [hsl] at s0
              injection s0 with s0
              rw [← s0, hp] at h0
              exact hkk ((congrArg Prod.snd (Option.some.inj h0)).trans hk0)
      by_cases hl : t.led = true
      · refine wp_if_neg (by simp [hl]) ?_
        try refine wpAny_bind (wpAny_pure ?_)
        exact rest
      · refine wp_if_pos (by simp [hl]) ?_
        refine wpAny_bind (seenN hx (fun y hy => ?_) ?_)
        · obtain ⟨e, he, ee⟩ := List.mem_map.mp hy
          have he1 : e ∈ es ∧ e.1 = nhash w k := by simpa using he
          have he2 : e ∈ es.toList := by simpa using he1.1
          rw [R.rows] at he2
          obtain ⟨p2, hp2, e2⟩ := List.mem_map.mp he2
          refine ⟨p2.2, p2.1, ?_, R.tup p2 hp2⟩
          rw [← ee, ← e2]
        · refine wp_if_neg (by decide) ?_
          try refine wpAny_bind (wpAny_pure ?_)
          exact rest
    · -- the empty slot
      have hpr' : t.probe (fun i => (es[i]?.map (·.1)).getD 0) (nhash w k) (stand.getD (t.probeStart (nhash w k))) = some (.empty (way t.mask (nhash w k) K) none) := by
        have e2 : way t.mask (nhash w k) K = (nth t.mask (nth t.mask (runAt t.mask (SetTable.bits (nhash w k) % (t.mask + 1)) (SetTable.bits (nhash w k))) c) (K - c)).j := by
          rw [e1, show c + (K - c) = K by omega]
        rw [hst, e2]
        exact hpr
      rw [hpr']
      dsimp only
      refine wpAny_pure (hout fun hm => ?_)
      obtain ⟨p0, h0, hk0⟩ := List.mem_map.mp hm
      obtain ⟨i0, hi0, e0⟩ := List.getElem_of_mem h0
      have h00 : L[i0]? = some p0 := by rw [List.getElem?_eq_getElem hi0, e0]
      obtain ⟨c', a1, a2, a3⟩ := hre i0 p0 h00 hk0
      refine hno (c' - c) i0 (by omega) (by rw [e1, show c + (c' - c) = c' by omega]; exact a3) ?_
      exact (hashAt i0 p0 h00).trans (congrArg (nhash w) hk0)

/-- the search as adding asks for it -/
theorem nsearch_at (R : SetN w s.heap a L es ep t) {x : Addr} {k : NestedKey} (hx : IsN s.heap k x) (hu : A.units + 8 < cLine) {Q : SetFound → Shared → Prop}
    (hin : k ∈ L.map (·.2) → Q (.there none) s)
    (hout : ∀ K, k ∉ L.map (·.2) → way t.mask (nhash w k) K ∉ t.place.toList → (∀ c, c < K → way t.mask (nhash w k) c ∈ t.place.toList) → Q (.free (way t.mask (nhash w k) K) false) s) :
    wpAny (model P w) A (setSearch a (.ref x) (nhash w k) true) Q E s := by
  have hroom := R.room
  obtain ⟨K, hKf, hK, hKb⟩ := R.tab.first (by rw [List.length_map]; omega) (nhash w k)
  have hbig : K < 100000 := by
    have : 10 * SetTable.turns t.mask ≤ 1420 := by
      unfold SetTable.turns
      rcases R.tab.mok with e | e | e <;> omega
    omega
  unfold setSearch
  refine nsearch_from R hx hu hKf hK hKb hin (fun hn => hout K hn hK hKb) 100000 0 none rfl (Nat.zero_le _) (by omega) fun i p hp hk => ?_
  have hi : (L.map fun p => nhash w p.2)[i]? = some (nhash w k) := by rw [List.getElem?_map, hp, ← hk] <;> rfl
  have hil : i < t.place.toList.length := by
    have h1 : i < L.length := (List.getElem?_eq_some_iff.mp hp).1
    have h2 := R.tab.sz
    rw [List.length_map] at h2
    rw [Array.length_toList]
    omega
  have hj := List.getElem?_eq_getElem hil
  obtain ⟨c, hc, e⟩ := R.tab.before hK hi hj
  exact ⟨c, Nat.zero_le _, hc, by rw [hj, e]⟩
theorem isN_same {h h' : Heap} {k : NestedKey} {a b : Addr} {o : Obj} {es : Array (Int × Value)} {ep : Nat} {t : SetTable} (hb : IsN h k b) (ho : h.get? a = some o) (hd : o.data = .set es ep t) (hs : Heap.SameBut a h h') : IsN h' k b := by
  refine ⟨NestedIs.at (fun c oc vs m hc hv => ?_) k _ hb.1, hb.2⟩
  refine (hs.2 c fun e => ?_).trans hc
  subst e
  obtain rfl : oc = o := Option.some.inj (hc.symm.trans ho)
  rw [hd] at hv
  exact nomatch hv
theorem nrows_put (L : List (Addr × NestedKey)) (p : Nat) (x : Addr) (k : NestedKey) : nrows w (L.take p ++ (x, k) :: L.drop p) = (nrows w L).take p ++ (nhash w k, Value.ref x) :: (nrows w L).drop p := by
  unfold nrows
  rw [List.map_append, List.map_cons, List.map_take, List.map_drop]
theorem order_nrows (L : List (Addr × NestedKey)) (es : Array (Int × Value)) (order : Array Nat) (hr : es.toList = nrows w L) (hp : order.toList.Perm (List.range L.length)) :
    ∃ L2, (order.filterMap (es[·]?)).toList = nrows w L2 ∧ L2.Perm L ∧ (L2.map fun p => nhash w p.2) = order.toList.map fun i => (es.map (·.1)).getD i 0 := by
  have hsz : es.size = L.length := by
    have h := congrArg List.length hr
    unfold nrows at h
    rw [Array.length_toList, List.length_map] at h
    exact h
  have ent : ∀ i (h : i < L.length), es[i]? = some (nhash w (L[i]).2, Value.ref (L[i]).1) := fun i h => by
    rw [← Array.getElem?_toList, hr]
    unfold nrows
    rw [List.getElem?_map, List.getElem?_eq_getElem h] <;> rfl
  have key : ∀ l : List Nat, (∀ i ∈ l, i < L.length) → ∃ L2 : List (Addr × NestedKey), l.filterMap (fun i => es[i]?) = nrows w L2 ∧ L2 = l.filterMap (fun i => L[i]?) ∧ (L2.map fun p => nhash w p.2) = l.map fun i => (es.map (·.1)).getD i 0 := by
    intro l
    induction l with
    | nil => intro _; exact ⟨[], rfl, rfl, rfl⟩
    | cons i l ih =>
      intro hl
      have hi := hl i List.mem_cons_self
      obtain ⟨L2, e1, e2, e3⟩ := ih fun j hj => hl j (List.mem_cons_of_mem _ hj)
      refine ⟨L[i] :: L2, ?_, ?_, ?_⟩
      · rw [List.filterMap_cons_some (ent i hi), e1] <;> rfl
      · rw [List.filterMap_cons_some (List.getElem?_eq_getElem hi), e2]
      · rw [List.map_cons, List.map_cons, e3]
        have hi2 : i < (es.map (·.1)).size := by rw [Array.size_map, hsz]; exact hi
        have e4 : (es.map (·.1)).getD i 0 = nhash w (L[i]).2 := by
          have e5 : (es.map (·.1))[i]? = some (nhash w (L[i]).2) := by rw [Array.getElem?_map, ent i hi] <;> rfl
          simp [Array.getD_eq_getD_getElem?, e5]
        rw [e4]
  obtain ⟨L2, e1, e2, e3⟩ := key order.toList fun i hi => List.mem_range.mp (hp.mem_iff.mp hi)
  refine ⟨L2, by first | (rw [Array.toList_filterMap]; exact e1) | simpa using e1, ?_, e3⟩
  have h1 : L2.Perm ((List.range L.length).filterMap fun i => L[i]?) := by
    rw [e2]
    exact hp.filterMap _
  have h2 : (List.range L.length).filterMap (fun i => L[i]?) = L := by
    have key2 : ∀ n, n ≤ L.length → (List.range n).filterMap (fun i => L[i]?) = L.take n := by
      intro n
      induction n with
      | zero => intro _; rfl
      | succ n ih =>
        intro hn
        have hlt : n < L.length := hn
        rw [List.range_succ, List.filterMap_append, ih (Nat.le_of_lt hlt), List.take_succ, List.getElem?_eq_getElem hlt]
        rw [List.filterMap_cons_some (List.getElem?_eq_getElem hlt)] <;> rfl
    rw [key2 L.length (Nat.le_refl _), List.take_length]
  rw [h2] at h1
  exact h1

variable {a : Addr} {L : List (Addr × NestedKey)} {es : Array (Int × Value)} {ep : Nat} {t : SetTable}
/-- the table laid anew, larger -/
theorem nrelay_at {o : Obj} (ho : s.heap.get? a = some o) (hex : o.ExactSet) (hd : o.data = .set es ep t) (hrows : es.toList = nrows w L) (hsz : t.place.size = es.size) (hdm : t.dummies = #[]) (hfl : es.size ≤ t.mask)
    (nd : (L.map (·.2)).Nodup) (tup : ∀ p ∈ L, IsN s.heap p.2 p.1) (pl : t.plain = true) (ld : w.params.followText "set-order" = true ∨ t.led = true) (few : L.length < 64) {wanted M : Nat}
    (hw : SetTable.sizeAbove wanted - 1 = M) (hM : MaskOk M) (hw2 : SetTable.sizeAbove wanted ≤ 128) (hn : L.length * 5 < M * 3) {Q : Unit → Shared → Prop}
    (hQ : ∀ h' L' es' ep' t', Heap.SameBut a s.heap h' → SetN w h' a L' es' ep' t' → L'.Perm L → Q () { s with heap := h' }) : wpAny (model P w) A (setRelay a wanted) Q E s := by
  have hsl : es.size = L.length := by
    have h := congrArg List.length hrows
    unfold nrows at h
    rw [Array.length_toList, List.length_map] at h
    exact h
  have hfits : t.fits es.size = true := by
    unfold SetTable.fits SetTable.fill
    rw [hdm, Bool.and_eq_true, beq_iff_eq, decide_eq_true_eq]
    show t.place.size = es.size ∧ t.place.size + 0 ≤ t.mask
    omega
  obtain ⟨t', order, e, hp, T, em, el, ep', ed⟩ := relaid_ok t (hs := es.map (·.1)) (wanted := wanted) hw hM (by rw [Array.size_map, hsl]; omega)
  rw [Array.size_map, hsl] at hp
  obtain ⟨L2, r1, r2, r3⟩ := order_nrows L es order hrows hp
  rw [← r3] at T
  have hs2 : (order.filterMap (es[·]?)).size = es.size := by
    have h := congrArg List.length r1
    unfold nrows at h
    rw [Array.length_toList, List.length_map, r2.length_eq] at h
    rw [h, hsl]
  rw [setRelay_eq]
  refine wpAny_bind (wpAny_setState_of ho hd hfits ?_)
  dsimp only
  refine wp_if_neg (by rw [sizeLine_eq]; omega) ?_
  try refine wpAny_bind (wpAny_pure ?_)
  rw [e]
  dsimp only
  refine wpAny_bind ?_
  refine wp_if_neg (by rw [hs2]; simp) ?_
  try refine wpAny_bind (wpAny_pure ?_)
  refine wpAny_pure ?_
  dsimp only
  refine wpAny_storeSet_of ho hd ?_ (by rw [hs2, hsl, sizeLine_eq]; omega)
  have sb : Heap.SameBut a s.heap (s.heap.update a (Obj.putSet (order.filterMap (es[·]?)) t')) := Heap.SameBut.update ..
  refine hQ _ L2 (order.filterMap (es[·]?)) (ep + 1) t' sb ?_ r2
  refine ⟨⟨_, store_at ho hd, ⟨hex.1, hex.2.1, hex.2.2⟩, rfl⟩, r1, T, ?_, fun p hpm => isN_same (tup p (r2.mem_iff.mp hpm)) ho hd sb, by rw [ep']; exact pl, by rw [el]; exact ld, ?_, by rw [r2.length_eq]; exact few⟩
  · exact (r2.map (·.2)).nodup_iff.mpr nd
  · rw [r2.length_eq, em]
    exact hn

/-- ADDING -/
theorem nadd_at (R : SetN w s.heap a L es ep t) {x : Addr} {k : NestedKey} (hx : IsN s.heap k x) (hu : A.units + 8 < cLine) (hfew : L.length + 1 < 64) {Q : Bool → Shared → Prop}
    (hQ : ∀ b h' L' es' ep' t', Heap.SameBut a s.heap h' → SetN w h' a L' es' ep' t' → (k ∈ L.map (·.2) → L' = L) → (k ∉ L.map (·.2) → L'.Perm ((x, k) :: L)) → Q b { s with heap := h' }) :
    wpAny (model P w) A (setAddHashed a (.ref x) (nhash w k)) Q E s := by
  obtain ⟨o, ho, hex, hd⟩ := R.ob
  have hsl := R.size
  have hroom := R.room
  unfold setAddHashed
  refine wpAny_holding ?_
  rw [show (100000 : Nat) = 99999 + 1 from rfl, setAddHashedIn_succ]
  refine wpAny_bind (wpAny_setState_of ho hd R.fits ?_)
  dsimp only
  refine wp_if_neg (by simp [byScan, Value.scannable]) ?_
  try refine wpAny_bind (wpAny_pure ?_)
  refine wpAny_bind (nsearch_at R hx hu (fun hm => ?_) fun K hm hK hb => ?_)
  · dsimp only
    exact wpAny_pure (hQ false s.heap L es ep t (Heap.SameBut.refl a s.heap) R (fun _ => rfl) fun z => absurd hm z)
  · dsimp only
    refine wpAny_bind (wpAny_setState_of ho hd R.fits ?_)
    dsimp only
    obtain ⟨q1, q2, q3, q4, q5, q6, q7, q8, q9⟩ := R.tab.put hK hb
    have hp1 : (t.put (way t.mask (nhash w k) K)).1.plain = true := by rw [q6]; exact R.plain
    generalize hpt : t.put (way t.mask (nhash w k) K) = pt at q1 q3 q4 q5 q6 q7 q8 q9 hp1 ⊢
    obtain ⟨t1, p⟩ := pt
    dsimp only at q1 q3 q4 q5 q6 q7 q8 q9 hp1 ⊢
    subst q1
    first
      | (refine wpAny_bind ?_; refine wp_if_pos hp1 ?_; refine hashN hx ?_)
      | refine wp_if_pos hp1 (wpAny_bind (hashN hx ?_))
    simp only [if_true]
    have hin : (SetTable.insertAt es (SetTable.below t.place (way t.mask (nhash w k) K)) (nhash w k, Value.ref x)).toList = nrows w (L.take (SetTable.below t.place (way t.mask (nhash w k) K)) ++ (x, k) :: L.drop (SetTable.below t.place (way t.mask (nhash w k) K))) := by
      rw [SetTable.toList_insertAt, nrows_put, R.rows]
    generalize hpp : SetTable.below t.place (way t.mask (nhash w k) K) = p at q2 q3 hin ⊢
    have pm := put_perm L p (x, k)
    have hlen : (L.take p ++ (x, k) :: L.drop p).length = L.length + 1 := pm.length_eq
    have hhs : (L.take p ++ (x, k) :: L.drop p).map (fun p => nhash w p.2) = (L.map fun p => nhash w p.2).take p ++ nhash w k :: (L.map fun p => nhash w p.2).drop p := by
      rw [List.map_append, List.map_cons, List.map_take, List.map_drop]
    rw [← hhs] at q3
    have nd1 : ((L.take p ++ (x, k) :: L.drop p).map (·.2)).Nodup := by
      refine (pm.map (·.2)).nodup_iff.mpr ?_
      rw [List.map_cons]
      exact List.nodup_cons.mpr ⟨hm, R.nd⟩
    have hes : (SetTable.insertAt es p (nhash w k, Value.ref x)).size = L.length + 1 := by
      have h := congrArg List.length hin
      unfold nrows at h
      rw [Array.length_toList, List.length_map, hlen] at h
      exact h
    generalize SetTable.insertAt es p (nhash w k, Value.ref x) = es1 at hin hes ⊢
    generalize L.take p ++ (x, k) :: L.drop p = L1 at pm hlen q3 nd1 hin
    refine wpAny_bind (wpAny_storeSet_of ho hd ?_ (by rw [hes, sizeLine_eq]; omega))
    have sb : Heap.SameBut a s.heap (s.heap.update a (Obj.putSet es1 t1)) := Heap.SameBut.update ..
    have ho1 := store_at (es' := es1) (t' := t1) ho hd
    generalize s.heap.update a (Obj.putSet es1 t1) = h1 at sb ho1 ⊢
    have tup1 : ∀ p ∈ L1, IsN h1 p.2 p.1 := fun p hp => by
      rcases List.mem_cons.mp (pm.mem_iff.mp hp) with e | hp
      · rw [e]; exact isN_same hx ho hd sb
      · exact isN_same (R.tup p hp) ho hd sb
    have ld1 : w.params.followText "set-order" = true ∨ t1.led = true := by rw [q5]; exact R.led
    by_cases hf : t1.tooFull = true
    · first
        | (refine wpAny_bind ?_; refine wp_if_pos (by simp [hf]) ?_)
        | (refine wp_if_pos (by simp [hf]) ?_; refine wpAny_bind ?_)
      have hfull : (L.length + 1) * 5 ≥ t1.mask * 3 := by
        have h := hf
        unfold SetTable.tooFull at h
        rw [decide_eq_true_eq, q9, List.length_map] at h
        exact h
      rw [hsl]
      have hsz1 : t1.place.size = es1.size := by
        have h := q3.sz
        rw [List.length_map, hlen] at h
        rw [h, hes]
      have cases2 : (t.mask = 7 ∧ L.length = 4) ∨ (t.mask = 31 ∧ L.length = 18) := by
        rcases R.tab.mok with e | e | e
        · left; rw [q4, e] at hfull; rw [e] at hroom; exact ⟨e, by omega⟩
        · right; rw [q4, e] at hfull; rw [e] at hroom; exact ⟨e, by omega⟩
        · exfalso; rw [q4, e] at hfull; omega
      have go : ∀ M, SetTable.sizeAbove (SetTable.grown (L.length + 1)) - 1 = M → MaskOk M → SetTable.sizeAbove (SetTable.grown (L.length + 1)) ≤ 128 → (L.length + 1) * 5 < M * 3 →
          wpAny (model P w) A (setRelay a (SetTable.grown (L.length + 1))) (fun _ s' => wpAny (model P w) A (pure true) Q E s') E { s with heap := h1 } := fun M h1' h2' h3' h4' => by
        refine nrelay_at (s := { s with heap := h1 }) ho1 ⟨hex.1, hex.2.1, hex.2.2⟩ rfl hin hsz1 q3.dm (by rw [hes, q4]; rcases cases2 with ⟨e, e2⟩ | ⟨e, e2⟩ <;> omega) nd1 tup1 hp1 ld1 (by rw [hlen]; exact hfew) h1' h2' h3' (by rw [hlen]; exact h4') ?_
        intro h2 L2 es2 ep2 t2 sb2 R2 pm2
        refine wpAny_pure (hQ true h2 L2 es2 ep2 t2 (sb.trans sb2) R2 (fun z => absurd z hm) fun _ => pm2.trans pm)
      rcases cases2 with ⟨_, e2⟩ | ⟨_, e2⟩
      · refine go 31 (by rw [e2, size_20]) (.inr (.inl rfl)) (by rw [e2, size_20]; decide) (by omega)
      · refine go 127 (by rw [e2, size_76]) (.inr (.inr rfl)) (by rw [e2, size_76]; decide) (by omega)
    · first
        | refine wp_if_neg (by simp [hf]) ?_
        | (refine wpAny_bind ?_; refine wp_if_neg (by simp [hf]) ?_; refine wpAny_pure ?_)
      refine wpAny_pure (hQ true h1 L1 es1 (ep + 1) t1 sb ⟨⟨_, ho1, ⟨hex.1, hex.2.1, hex.2.2⟩, rfl⟩, hin, q3, nd1, tup1, hp1, ld1, ?_, by rw [hlen]; exact hfew⟩ (fun z => absurd z hm) fun _ => pm)
      have h := hf
      unfold SetTable.tooFull at h
      rw [decide_eq_true_eq, q9, List.length_map] at h
      rw [hlen]
      omega
/-- what the set has got from the first i items -/
structure GotN (ks : List (Addr × NestedKey)) (i : Nat) (L : List (Addr × NestedKey)) : Prop where
  sub : ∀ p ∈ L, p ∈ ks.take i
  all : ∀ p ∈ ks.take i, p.2 ∈ L.map (·.2)
  len : L.length ≤ i
theorem GotN.zero (ks : List (Addr × NestedKey)) : GotN ks 0 [] := ⟨fun p h => (by cases h), fun p h => (by simp at h), Nat.le_refl _⟩
theorem GotN.same {ks L : List (Addr × NestedKey)} {i : Nat} {x : Addr × NestedKey} (g : GotN ks i L) (h : ks[i]? = some x) (hm : x.2 ∈ L.map (·.2)) : GotN ks (i + 1) L := by
  refine ⟨fun p hp => ?_, fun p hp => ?_, Nat.le_succ_of_le g.len⟩
  · rw [take_next h]
    exact List.mem_append_left _ (g.sub p hp)
  · rw [take_next h] at hp
    rcases List.mem_append.mp hp with z | z
    · exact g.all p z
    · rw [List.mem_singleton.mp z]; exact hm
theorem GotN.more {ks L L' : List (Addr × NestedKey)} {i : Nat} {x : Addr × NestedKey} (g : GotN ks i L) (h : ks[i]? = some x) (pm : L'.Perm (x :: L)) : GotN ks (i + 1) L' := by
  refine ⟨fun p hp => ?_, fun p hp => ?_, ?_⟩
  · rw [take_next h]
    rcases List.mem_cons.mp (pm.mem_iff.mp hp) with e | z
    · rw [e]; exact List.mem_append_right _ (List.mem_singleton.mpr rfl)
    · exact List.mem_append_left _ (g.sub p z)
  · rw [(pm.map (·.2)).mem_iff, List.map_cons]
    rw [take_next h] at hp
    rcases List.mem_append.mp hp with z | z
    · exact List.mem_cons_of_mem _ (g.all p z)
    · rw [List.mem_singleton.mp z]; exact List.mem_cons_self
  · rw [pm.length_eq, List.length_cons]
    exact Nat.succ_le_succ g.len

theorem isN_keep {h h' : Heap} {k : NestedKey} {b : Addr} (x : IsN h k b) (hk : ∀ c o, h.get? c = some o → h'.get? c = some o) : IsN h' k b := by
  exact ⟨NestedIs.at (fun c oc vs m hc hv => hk c oc hc) k _ x.1, x.2⟩
theorem SetN.keep {h h' : Heap} {a : Addr} {L : List (Addr × NestedKey)} {es : Array (Int × Value)} {ep : Nat} {t : SetTable} (R : SetN w h a L es ep t) (ha : ∀ o, h.get? a = some o → h'.get? a = some o) (ht : ∀ p ∈ L, IsN h' p.2 p.1) : SetN w h' a L es ep t := by
  obtain ⟨o, ho, r⟩ := R.ob
  exact ⟨⟨o, ha o ho, r⟩, R.rows, R.tab, R.nd, ht, R.plain, R.led, R.room, R.few⟩
/-- a new set -/
theorem setN_new {h : Heap} {a : Addr} (ho : h.get? a = some { cls := .type "set", dict := none, data := .set #[] 0 (.fresh 0 0 (!w.params.followText "set-order")) }) : SetN w h a [] #[] 0 (.fresh 0 0 (!w.params.followText "set-order")) where
  ob := ⟨_, ho, ⟨rfl, rfl, rfl⟩, rfl⟩
  rows := rfl
  tab := ⟨List.Pairwise.nil, rfl, rfl, .inl rfl, fun x hx => (by cases hx), fun i h j hi => (by simp at hi)⟩
  nd := List.nodup_nil
  tup := fun p hp => (by cases hp)
  plain := rfl
  led := by
    show _ ∨ (!w.params.followText "set-order") = true
    cases w.params.followText "set-order"
    · exact .inr rfl
    · exact .inl rfl
  room := by
    show 0 * 5 < 7 * 3
    decide
  few := by
    show 0 < 64
    decide

/-- set.update's loop -/
theorem set_update_nested {I : Addr} {fp wr : List Addr} {G : Array GenState → Array GenState → Prop} {n : Nat} {Pv : Nat → Value → Prop} {St : Nat → Shared → Prop} {R : Result → Shared → Prop}
    (W : WalksS P w A.in1 I fp wr G n Pv St) (S : Addr) (hSf : S ∉ fp) (ks : List (Addr × NestedKey)) (hn : n = ks.length) (hfew : ks.length < 64) (hval : ∀ i v, Pv i v → ∃ p, ks[i]? = some p ∧ v = .ref p.1)
    (h0 : Heap) (hk : ∀ p ∈ ks, IsN h0 p.2 p.1) (hS0 : h0.get? S = none) (hw0 : ∀ b ∈ wr, h0.get? b = none) (hu : A.in1.units + 8 < cLine) :
    ∀ (k i : Nat) (s : Shared), n - i = k → i ≤ n → St i s → (∀ b o, h0.get? b = some o → s.heap.get? b = some o) → (∃ L es ep t, SetN w s.heap S L es ep t ∧ GotN ks i L) →
      (∀ s' L es ep t, Moved (S :: wr) G s s' → SetN w s'.heap S L es ep t → GotN ks n L → (∀ b o, h0.get? b = some o → s'.heap.get? b = some o) → R (.ok (.ret .none)) s') →
      codeAny (model P w) A (.builtin "set.update.loop" ⟨[.ref S, .ref I], []⟩) R s := by
  have hSw : S ∉ wr := fun h => hSf (W.sub _ h)
  have hsub : ∀ b ∈ wr, b ∈ S :: wr := fun b hb => List.mem_cons_of_mem _ hb
  have keepM : ∀ {s s' : Shared}, Moved wr G s s' → (∀ b o, h0.get? b = some o → s.heap.get? b = some o) → ∀ b o, h0.get? b = some o → s'.heap.get? b = some o := fun hm hkp b o e =>
    hm.heap b o (fun hb => by rw [hw0 b hb] at e; cases e) (hkp b o e)
  intro k
  induction k with
  | zero =>
    intro i s hk' hi hst hkp ⟨L, es, ep, t, hS, g⟩ hR
    have hin : i = n := by omega
    subst hin
    refine codeAny_builtin F.entry_set_update_loop ?_
    rw [Around.under_plainId F.plain_set_update_loop _]
    show wpAny _ A.in1 (pyNext (.ref I) >>= _) _ _ s
    refine wpAny_bind (W.done s _ _ hst fun s' hm => ?_)
    show wpAny _ A.in1 (ret Value.none) _ _ s'
    have hkp' := keepM hm hkp
    have sub : ∀ p ∈ L, p ∈ ks := fun p hp => List.mem_of_mem_take (g.sub p hp)
    exact wpAny_pure (hR s' L es ep t (hm.mono hsub) (hS.keep (fun o e => hm.heap S o hSw e) fun p hp => isN_keep (hk p (sub p hp)) hkp') g hkp')
  | succ k ih =>
    intro i s hk' hi hst hkp ⟨L, es, ep, t, hS, g⟩ hR
    have hlt : i < n := by omega
    refine codeAny_builtin F.entry_set_update_loop ?_
    rw [Around.under_plainId F.plain_set_update_loop _]
    show wpAny _ A.in1 (pyNext (.ref I) >>= _) _ _ s
    refine wpAny_bind (W.item i s _ _ hlt hst fun v s' hP hst' hm => ?_)
    obtain ⟨p, hp, rfl⟩ := hval i v hP
    have hkp' := keepM hm hkp
    have sub : ∀ p ∈ L, p ∈ ks := fun p hp => List.mem_of_mem_take (g.sub p hp)
    have hS' : SetN w s'.heap S L es ep t := hS.keep (fun o e => hm.heap S o hSw e) fun q hq => isN_keep (hk q (sub q hq)) hkp'
    have hx : IsN s'.heap p.2 p.1 := isN_keep (hk p (List.mem_of_getElem? hp)) hkp'
    show wpAny _ A.in1 (holding [Value.ref p.1] (setAdd S (.ref p.1)) >>= _) _ _ s'
    refine wpAny_bind (wpAny_holding ?_)
    unfold setAdd
    refine wpAny_holding ?_
    refine wpAny_bind (pyHash_key p.2 _ _ _ _ hx.1 (by have := hx.2.1; omega) ?_)
    refine nadd_at (s := { s' with toks := s'.toks + p.2.draws }) hS' hx hu (by have := g.len; omega) fun b h' L' es' ep' t' hsb hS2 c1 c2 => ?_
    have g' : GotN ks (i + 1) L' := by
      rcases Classical.em (p.2 ∈ L.map (·.2)) with c | c
      · rw [c1 c]; exact g.same hp c
      · exact g.more hp (c2 c)
    have hkp2 : ∀ b o, h0.get? b = some o → h'.get? b = some o := fun b o e => (hsb.2 b (fun z => by rw [z, hS0] at e; cases e)).trans (hkp' b o e)
    refine wpAny_pure ⟨plainId_quiet F.plain_set_update_loop _, ih (i + 1) _ (by omega) hlt (W.frame _ s' _ _ hst' (Nat.le_add_right _ _) fun b hb o e => ?_) hkp2 ⟨L', es', ep', t', hS2, g'⟩ fun s'' L2 es2 ep2 t2 hm'' hS'' g'' hkp'' => ?_⟩
    · rw [hsb.2 b (fun h : b = S => hSf (by rw [← h]; exact hb))]; exact e
    · refine hR s'' L2 es2 ep2 t2 (Moved.trans W.gtrans ((hm.mono hsub).then_heap (Nat.le_add_right _ _) fun b o hb e => ?_) hm'') hS'' g'' hkp''
      rw [hsb.2 b (fun h : b = S => hb (by rw [h]; exact List.mem_cons_self))]; exact e


end
end Rt
namespace Rt
open PySem PySem.Spec PyProof.Rows L2
/-! ### set(xs), xs a list of nested tuples -/
section
variable {P : Program} {w : World} {A : Around} {E : Value → Shared → Prop} {s : Shared}
theorem set_nested {l : Addr} {items : Array Value} (ks : List (Addr × NestedKey)) {Q : Value → Shared → Prop} (hh : A.handled = none) (hl : s.heap.IsList l items) (hi : items.toList = ks.map fun p => Value.ref p.1)
    (hk : ∀ p ∈ ks, IsN s.heap p.2 p.1) (hfew : ks.length < 64) (hu : A.units + 16 < cLine)
    (h : ∀ h' tk L es ep t, SetN w h' s.heap.objs.size L es ep t → GotN ks ks.length L → (∀ b o, s.heap.get? b = some o → h'.get? b = some o) → Q (.ref s.heap.objs.size) { s with heap := h', toks := tk }) :
    wpAny (model P w) A (call (.type "set") [.ref l]) Q E s := by
  have hz : items.size = ks.length := by
    have q := congrArg List.length hi
    rw [Array.length_toList, List.length_map] at q
    exact q
  obtain ⟨ol, hol, _⟩ := id hl
  have lS : l < s.heap.objs.size := Heap.lt_size hol
  refine set_call (fun h' => ∃ L es ep t, SetN w h' s.heap.objs.size L es ep t ∧ GotN ks ks.length L) hl (fun R hR => ?_) fun h' tk ⟨L, es, ep, t, g1, g2⟩ kp => h h' tk L es ep t g1 g2 kp
  have sz : (s.heap.push (setO0 w)).objs.size = s.heap.objs.size + 1 := Heap.size_push ..
  have nI : l ≠ (s.heap.push (setO0 w)).objs.size := by rw [sz]; exact Nat.ne_of_lt (Nat.lt_succ_of_lt lS)
  have nS : s.heap.objs.size ∉ [(s.heap.push (setO0 w)).objs.size, l] := by
    rw [sz]
    intro z
    simp only [List.mem_cons, List.not_mem_nil, or_false] at z
    rcases z with z | z
    · exact absurd z (Nat.ne_of_lt (Nat.lt_succ_self _))
    · exact absurd z (Nat.ne_of_gt lS)
  have l1 : (s.heap.push (setO0 w)).IsList l items := by
    obtain ⟨o, h1, h2⟩ := hl
    exact ⟨o, Heap.get?_push_of_some _ h1, h2⟩
  have none_at : ∀ b, s.heap.objs.size ≤ b → s.heap.get? b = none := fun b hb => by
    cases e : s.heap.get? b with
    | none => rfl
    | some o => exact absurd (Heap.lt_size e) (Nat.not_lt.mpr hb)
  refine set_update_nested (A := A.in1.in1) ((Walks.list (A := A.in1.in1.in1) (by simp [hh]) (s.heap.push (setO0 w)).objs.size l nI items).toS) s.heap.objs.size nS ks hz hfew (fun i v hv => ?_) s.heap hk (none_at _ (Nat.le_refl _)) (fun b hb => ?_) (by simp only [Around.in1_units]; omega) (items.size - 0) 0 _ (by omega) (Nat.zero_le _)
    ⟨⟨_, Heap.get?_push_size _ rfl, rfl, rfl⟩, l1.push _⟩ (fun b o e => Heap.get?_push_of_some _ (Heap.get?_push_of_some _ e)) ⟨[], #[], 0, _, setN_new (Heap.get?_push_of_some _ (Heap.get?_push_size _ rfl)), GotN.zero ks⟩ fun s' L es ep t hm hS hg hkp => ?_
  · have hv' : items.toList[i]? = some v := by rw [Array.getElem?_toList]; exact hv
    rw [hi, List.getElem?_map] at hv'
    cases e : ks[i]? with
    | none => rw [e] at hv'; cases hv'
    | some p => rw [e] at hv'; cases hv'; exact ⟨p, rfl, rfl⟩
  · refine none_at b ?_
    simp only [List.mem_cons, List.not_mem_nil, or_false] at hb
    rw [hb, sz]; exact Nat.le_succ _
  · obtain ⟨h', g, d, tk, os⟩ := s'
    obtain rfl : g = s.gens := hm.gens
    obtain rfl : d = s.drawn := hm.drawn
    obtain rfl : os = s.os := hm.os
    rw [hz] at hg
    exact hR h' tk ⟨L, es, ep, t, hS, hg⟩ hkp
end
/-! ### the data -/
mutual
def numD : PyData → Bool
  | .int _ => true
  | .tuple ds => numDs ds
  | .none => false
  | .bool _ => false
  | .str _ => false
  | .list _ => false
  | .dict _ => false
def numDs : List PyData → Bool
  | [] => true
  | d :: ds => numD d && numDs ds
end
mutual
def nkD : PyData → NestedKey
  | .int i => .num i
  | .tuple ds => .tup (nkDs ds)
  | .none => .none
  | .bool _ => .none
  | .str _ => .none
  | .list _ => .none
  | .dict _ => .none
def nkDs : List PyData → List NestedKey
  | [] => []
  | d :: ds => nkD d :: nkDs ds
end
mutual
theorem nk_is {h : Heap} : ∀ (d : PyData) (v : Value) (as : List Addr), numD d = true → Reads h v d as → NestedIs h (nkD d) v ∧ as = []
  | .int i, _, _, _, r => by cases r; exact ⟨.int _ _, rfl⟩
  | .tuple ds, _, _, z, r => by
    cases r with
    | tuple h1 h2 h3 h4 =>
      obtain ⟨a, b⟩ := nks_are ds _ _ (by simpa [numD] using z) h4
      exact ⟨.tup h1 h2 h3 a, b⟩
  | .none, _, _, z, _ => by simp [numD] at z
  | .bool _, _, _, z, _ => by simp [numD] at z
  | .str _, _, _, z, _ => by simp [numD] at z
  | .list _, _, _, z, _ => by simp [numD] at z
  | .dict _, _, _, z, _ => by simp [numD] at z
theorem nks_are {h : Heap} : ∀ (ds : List PyData) (vs : List Value) (as : List Addr), numDs ds = true → ReadsAll h vs ds as → NestedAll h (nkDs ds) vs ∧ as = []
  | [], _, _, _, r => by cases r; exact ⟨.nil, rfl⟩
  | d :: ds, _, _, z, r => by
    simp only [numDs, Bool.and_eq_true] at z
    cases r with
    | cons h1 h2 =>
      obtain ⟨a, e1⟩ := nk_is d _ _ z.1 h1
      obtain ⟨b, e2⟩ := nks_are ds _ _ z.2 h2
      subst e1 e2
      exact ⟨.cons a b, rfl⟩
end
mutual
theorem nk_num : ∀ d : PyData, numD d = true → numK (nkD d) ∧ (nkD d).depth = d.depth
  | .int i, _ => ⟨trivial, by simp [nkD, NestedKey.depth, PyData.depth]⟩
  | .tuple ds, z => by
    obtain ⟨a, b⟩ := nks_num ds (by simpa [numD] using z)
    exact ⟨by simpa [nkD, numK] using a, by simp [nkD, NestedKey.depth, PyData.depth, b]⟩
  | .none, z => by simp [numD] at z
  | .bool _, z => by simp [numD] at z
  | .str _, z => by simp [numD] at z
  | .list _, z => by simp [numD] at z
  | .dict _, z => by simp [numD] at z
theorem nks_num : ∀ ds : List PyData, numDs ds = true → numKs (nkDs ds) ∧ NestedKey.depthAll (nkDs ds) = PyData.depthAll ds
  | [], _ => ⟨by simp [nkDs, numKs], by simp [nkDs, NestedKey.depthAll, PyData.depthAll]⟩
  | d :: ds, z => by
    simp only [numDs, Bool.and_eq_true] at z
    obtain ⟨a, b⟩ := nk_num d z.1
    obtain ⟨a', b'⟩ := nks_num ds z.2
    exact ⟨by simp [nkDs, numKs, a, a'], by simp [nkDs, NestedKey.depthAll, PyData.depthAll, b, b']⟩
end
mutual
theorem nk_inj : ∀ d e : PyData, numD d = true → numD e = true → nkD d = nkD e → d = e
  | .int i, e, _, z, h => by
    cases e with
    | int j => simp [nkD] at h; rw [h]
    | tuple es => simp [nkD] at h
    | _ => simp [numD] at z
  | .tuple ds, e, y, z, h => by
    cases e with
    | int j => simp [nkD] at h
    | tuple es =>
      simp only [nkD, NestedKey.tup.injEq] at h
      rw [nks_inj ds es (by simpa [numD] using y) (by simpa [numD] using z) h]
    | _ => simp [numD] at z
  | .none, _, z, _, _ => by simp [numD] at z
  | .bool _, _, z, _, _ => by simp [numD] at z
  | .str _, _, z, _, _ => by simp [numD] at z
  | .list _, _, z, _, _ => by simp [numD] at z
  | .dict _, _, z, _, _ => by simp [numD] at z
theorem nks_inj : ∀ ds es : List PyData, numDs ds = true → numDs es = true → nkDs ds = nkDs es → ds = es
  | [], [], _, _, _ => rfl
  | [], _ :: _, _, _, h => by simp [nkDs] at h
  | _ :: _, [], _, _, h => by simp [nkDs] at h
  | d :: ds, e :: es, y, z, h => by
    simp only [numDs, Bool.and_eq_true] at y z
    simp only [nkDs, List.cons.injEq] at h
    rw [nk_inj d e y.1 z.1 h.1, nks_inj ds es y.2 z.2 h.2]
end
mutual
theorem eqv_num : ∀ d e : PyData, numD d = true → PyData.eqv d e = true → PySem.W.alike d e = true → d = e
  | .int i, e, _, h, a => by
    cases e with
    | int j => simp [PyData.eqv] at h; rw [h]
    | _ => simp [PySem.W.alike] at a
  | .tuple ds, e, y, h, a => by
    cases e with
    | tuple es =>
      simp only [PyData.eqv] at h
      rw [eqvs_num ds es (by simpa [numD] using y) h (by simpa [PySem.W.alike] using a)]
    | _ => simp [PySem.W.alike] at a
  | .none, _, z, _, _ => by simp [numD] at z
  | .bool _, _, z, _, _ => by simp [numD] at z
  | .str _, _, z, _, _ => by simp [numD] at z
  | .list _, _, z, _, _ => by simp [numD] at z
  | .dict _, _, z, _, _ => by simp [numD] at z
theorem eqvs_num : ∀ ds es : List PyData, numDs ds = true → PyData.eqvAll ds es = true → PySem.W.alikeAll ds es = true → ds = es
  | [], [], _, _, _ => rfl
  | [], _ :: _, _, h, _ => by simp [PyData.eqvAll] at h
  | _ :: _, [], _, h, _ => by simp [PyData.eqvAll] at h
  | d :: ds, e :: es, y, h, a => by
    simp only [numDs, Bool.and_eq_true] at y
    simp only [PyData.eqvAll, Bool.and_eq_true] at h
    obtain ⟨a1, a2⟩ := PySem.W.alike_all_cons a
    rw [eqv_num d e y.1 h.1 a1, eqvs_num ds es y.2 h.2 a2]
end
/-- unlike data are in one order only -/
theorem le_anti {d e : PyData} (hd : numD d = true) (ha : PySem.W.alike d e = true) (h1 : PySem.W.dataLe false id d e = true) (h2 : PySem.W.dataLe false id e d = true) : d = e := by
  have t : PySem.W.keyToks d = PySem.W.keyToks e := by
    have a1 : (!PyProof.Rows.lexLt itemOrd (PySem.W.keyToks e) (PySem.W.keyToks d)) = true := h1
    have a2 : (!PyProof.Rows.lexLt itemOrd (PySem.W.keyToks d) (PySem.W.keyToks e)) = true := h2
    rw [Bool.not_eq_true'] at a1 a2
    exact (PyProof.Rows.listOrd itemOrd).total _ _ a2 a1
  refine eqv_num d e hd ?_ ha
  cases q : PyData.eqv d e with
  | true => rfl
  | false =>
    have r := (PySem.W.toks_eqv d e ha).2 q [] [.inl 0]
    rw [t, PySem.W.lex_pre, PyProof.Rows.lex_irrefl] at r
    cases r
def memD (d : PyData) (ds : List PyData) : Bool := ds.any fun e => PyData.eqv d e
def nubD : List PyData → List PyData
  | [] => []
  | d :: ds => if memD d ds then nubD ds else d :: nubD ds
def setTB (ds : List PyData) : Bool := ds.all (fun d => numD d && isTupN d) && ds.all (fun d => decide (d.depth ≤ 8)) && decide (ds.length < 64) && sortB ds
mutual
theorem eqvN_self : ∀ d : PyData, numD d = true → PyData.eqv d d = true
  | .int i, _ => by simp [PyData.eqv]
  | .tuple ds, y => by
    simp only [PyData.eqv]
    exact eqvsN_self ds (by simpa [numD] using y)
  | .none, z => by simp [numD] at z
  | .bool _, z => by simp [numD] at z
  | .str _, z => by simp [numD] at z
  | .list _, z => by simp [numD] at z
  | .dict _, z => by simp [numD] at z
theorem eqvsN_self : ∀ ds : List PyData, numDs ds = true → PyData.eqvAll ds ds = true
  | [], _ => by simp [PyData.eqvAll]
  | d :: ds, y => by
    simp only [numDs, Bool.and_eq_true] at y
    simp only [PyData.eqvAll, Bool.and_eq_true]
    exact ⟨eqvN_self d y.1, eqvsN_self ds y.2⟩
end
theorem memD_iff {d : PyData} {ds : List PyData} (hd : numD d = true) (ha : ∀ e ∈ ds, PySem.W.alike d e = true) : memD d ds = true ↔ d ∈ ds := by
  unfold memD
  rw [List.any_eq_true]
  constructor
  · rintro ⟨e, he, q⟩
    rw [eqv_num d e hd q (ha e he)]; exact he
  · intro h
    exact ⟨d, h, eqvN_self d hd⟩
theorem mem_nubD : ∀ {ds : List PyData}, (∀ d ∈ ds, numD d = true) → (∀ d ∈ ds, ∀ e ∈ ds, PySem.W.alike d e = true) → (∀ d, d ∈ nubD ds ↔ d ∈ ds) ∧ (nubD ds).Nodup
  | [], _, _ => ⟨fun d => Iff.rfl, List.nodup_nil⟩
  | x :: ds, hn, ha => by
    obtain ⟨i1, i2⟩ := mem_nubD (ds := ds) (fun d h => hn d (by simp [h])) (fun d h e h' => ha d (by simp [h]) e (by simp [h']))
    have m := memD_iff (d := x) (ds := ds) (hn x (by simp)) fun e he => ha x (by simp) e (by simp [he])
    unfold nubD
    by_cases c : memD x ds = true
    · rw [if_pos c]
      refine ⟨fun d => ?_, i2⟩
      rw [i1, List.mem_cons]
      constructor
      · exact .inr
      · rintro (rfl | h)
        · exact m.mp c
        · exact h
    · rw [if_neg c]
      refine ⟨fun d => by rw [List.mem_cons, List.mem_cons, i1], List.nodup_cons.mpr ⟨fun h => c (m.mpr ((i1 x).mp h)), i2⟩⟩
theorem pw_unique {α : Type} {le : α → α → Prop} : ∀ {a b : List α}, a.Pairwise le → b.Pairwise le → a.Nodup → b.Nodup → (∀ x ∈ a, ∀ y ∈ a, le x y → le y x → x = y) → (∀ j, j ∈ a ↔ j ∈ b) → a = b
  | [], [], _, _, _, _, _, _ => rfl
  | [], y :: b, _, _, _, _, _, h => absurd ((h y).mpr (by simp)) (by simp)
  | x :: a, [], _, _, _, _, _, h => absurd ((h x).mp (by simp)) (by simp)
  | x :: a, y :: b, h1, h2, n1, n2, an, h => by
    rw [List.pairwise_cons] at h1 h2
    rw [List.nodup_cons] at n1 n2
    have e : x = y := by
      rcases List.mem_cons.mp ((h x).mp (by simp)) with z | z
      · exact z
      · rcases List.mem_cons.mp ((h y).mpr (by simp)) with z' | z'
        · exact z'.symm
        · exact an x (by simp) y (by simp [z']) (h1.1 y z') (h2.1 x z)
    subst e
    rw [pw_unique h1.2 h2.2 n1.2 n2.2 (fun x hx y hy => an x (by simp [hx]) y (by simp [hy])) fun j => ⟨fun hj => ?_, fun hj => ?_⟩]
    · rcases List.mem_cons.mp ((h j).mp (List.mem_cons_of_mem _ hj)) with z | z
      · rw [z] at hj; exact absurd hj n1.1
      · exact z
    · rcases List.mem_cons.mp ((h j).mpr (List.mem_cons_of_mem _ hj)) with z | z
      · rw [z] at hj; exact absurd hj n2.1
      · exact z
theorem srtL_pw (ds : List PyData) : (srtL ds).Pairwise fun a b => PySem.W.dataLe false id a b = true := by
  rw [srtL_eq]
  have t := PySem.W.sortLe_total (PyProof.Rows.listOrd itemOrd) false fun d : PyData => PySem.W.keyToks (id d)
  refine List.pairwise_mergeSort t.trans (fun a b => ?_) ds
  rw [Bool.or_eq_true]
  exact t.total a b
theorem srtL_perm (ds : List PyData) : (srtL ds).Perm ds := by rw [srtL_eq]; exact List.mergeSort_perm _ _
/-- a list without doubles that has the members of ds, sorted -/
theorem srt_unique {ds es : List PyData} (h : setTB ds = true) (nd : es.Nodup) (hm : ∀ d, d ∈ es ↔ d ∈ ds) : srtL es = srtL (nubD ds) := by
  unfold setTB at h
  simp only [Bool.and_eq_true, List.all_eq_true, decide_eq_true_eq] at h
  obtain ⟨⟨⟨h1, h2⟩, h3⟩, h4⟩ := h
  have al := (sortB_ok h4).1
  obtain ⟨m1, m2⟩ := mem_nubD (fun d hd => (h1 d hd).1) al
  have pe := srtL_perm es
  have pn := srtL_perm (nubD ds)
  refine pw_unique (srtL_pw _) (srtL_pw _) (pe.nodup_iff.mpr nd) (pn.nodup_iff.mpr m2) (fun x hx y hy a b => ?_) fun j => by rw [pe.mem_iff, pn.mem_iff, hm, m1]
  have hx' := (hm x).mp (pe.mem_iff.mp hx)
  exact le_anti (h1 x hx').1 (al x hx' y ((hm y).mp (pe.mem_iff.mp hy))) a b
theorem perm_of_map {α β : Type} {f : α → β} {l m : List β} (p : l.Perm m) : ∀ L : List α, m = L.map f → ∃ L1 : List α, L1.Perm L ∧ l = L1.map f := by
  induction p with
  | nil => intro L e; exact ⟨L, .refl _, e⟩
  | @cons x l1 l2 _ ih =>
    intro L e
    cases L with
    | nil => cases e
    | cons a L =>
      simp only [List.map_cons, List.cons.injEq] at e
      obtain ⟨L1, p1, e1⟩ := ih L e.2
      exact ⟨a :: L1, p1.cons a, by rw [List.map_cons, e.1, e1]⟩
  | swap x y l =>
    intro L e
    match L, e with
    | [], e => cases e
    | [a], e => simp at e
    | a :: b :: L, e =>
      simp only [List.map_cons, List.cons.injEq] at e
      exact ⟨b :: a :: L, .swap a b L, by rw [List.map_cons, List.map_cons, e.1, e.2.1, e.2.2]⟩
  | trans p q ih1 ih2 =>
    intro L e
    obtain ⟨L2, p2, e2⟩ := ih2 L e
    obtain ⟨L1, p1, e1⟩ := ih1 L2 e2
    exact ⟨L1, p1.trans p2, e1⟩
/-! ### sorted(set(xs)) -/
def adV : V → Addr
  | .ref a => a
  | _ => 0
def kz (z : V × PyData) : Addr × NestedKey := (adV z.1, nkD z.2)
theorem pick_all {α β : Type} {f : α → β} {Z : List α} : ∀ L : List β, (∀ q ∈ L, ∃ z ∈ Z, q = f z) → ∃ zs : List α, L = zs.map f ∧ ∀ z ∈ zs, z ∈ Z
  | [], _ => ⟨[], rfl, fun z h => by cases h⟩
  | q :: L, h => by
    obtain ⟨z, hz, e⟩ := h q (by simp)
    obtain ⟨zs, e', hs⟩ := pick_all L fun r hr => h r (by simp [hr])
    refine ⟨z :: zs, by rw [List.map_cons, ← e, ← e'], fun y hy => ?_⟩
    rcases List.mem_cons.mp hy with r | r
    · rw [r]; exact hz
    · exact hs y r
section
variable {P : Program} {w : World} {A : Around} {E : Value → Shared → Prop} {s : Shared}
theorem sorted_setN {a : Addr} {L : List (Addr × NestedKey)} {es : Array (Int × Value)} {ep : Nat} {t : SetTable} {Q : Value → Shared → Prop} (R : SetN w s.heap a L es ep t) (hh : A.handled = none)
    {xs : List V} {ds : List PyData} (hb : setTB ds = true) (hlen : xs.length = ds.length) (rd : ∀ z ∈ xs.zip ds, Reads s.heap (.ref (adV z.1)) z.2 []) (rv : ∀ z ∈ xs.zip ds, RelV z.1 (.ref (adV z.1)))
    (hg : GotN ((xs.zip ds).map kz) (xs.zip ds).length L) (hu : A.units + 64 < cLine)
    (hQ : ∀ s' p (out : List Value) (c : Nat) (zs : List (V × PyData)), (∀ b o, s.heap.get? b = some o → s'.heap.get? b = some o) → s'.gens = s.gens → s'.os = s.os → s.heap.objs.size ≤ p →
      s'.heap.get? p = some (seqObj "list" out.toArray c) → Vals (zs.map (·.1)) out → zs.length < 64 → (∀ z ∈ zs, z ∈ xs.zip ds) → zs.map (·.2) = srtL (nubD ds) → Q (.ref p) s') :
    wpAny (model P w) A (call (.builtin "sorted") [.ref a]) Q E s := by
  obtain ⟨o, ho, hex, hd⟩ := R.ob
  have hsz := R.size
  have hfew := R.few
  have hb' := hb
  unfold setTB at hb'
  simp only [Bool.and_eq_true, List.all_eq_true, decide_eq_true_eq] at hb'
  obtain ⟨⟨⟨b1, b2⟩, b3⟩, b4⟩ := hb'
  obtain ⟨c1, c2, c3, c4⟩ := sortB_ok b4
  refine Calls.call_function_entry kind_sorted plain_sorted entry_sorted (args_sorted1 _) ?_
  unfold Builtin.«sorted»
  refine wpAny_bind (m := checkCount "sorted" 1 1 _) (wpAny_pure ?_)
  refine wpAny_bind (collect_set (A := A.in1) hh ⟨o, ho, hex.1, hd⟩ R.fits (by unfold scanBound; omega) R.tab.ris R.led fun s1 vs k1 hz g1 o1 pm => ?_)
  have hes : es.toList.map (·.2) = L.map fun q => Value.ref q.1 := by
    rw [R.rows]
    unfold nrows
    rw [List.map_map] <;> rfl
  rw [hes] at pm
  obtain ⟨L1, pL, e1⟩ := perm_of_map (f := fun q : Addr × NestedKey => Value.ref q.1) pm L rfl
  have tk : ((xs.zip ds).map kz).take (xs.zip ds).length = (xs.zip ds).map kz := List.take_of_length_le (by rw [List.length_map]; exact Nat.le_refl _)
  obtain ⟨zs, e2, hzs⟩ := pick_all (f := kz) (Z := xs.zip ds) L1 fun q hq => by
    have := hg.sub q (pL.mem_iff.mp hq)
    rw [tk] at this
    obtain ⟨z, hz, e⟩ := List.mem_map.mp this
    exact ⟨z, hz, e.symm⟩
  have evs : vs = zs.map fun z => Value.ref (adV z.1) := by rw [e1, e2, List.map_map] <;> rfl
  have zl : zs.length < 64 := by
    have : L1.length = zs.length := by rw [e2, List.length_map]
    rw [← this, pL.length_eq]; exact hfew
  have hds : ∀ z ∈ zs, z.2 ∈ ds := fun z h => (List.of_mem_zip (a := z.1) (b := z.2) (hzs z h)).2
  have nd : (zs.map (·.2)).Nodup := by
    have n1 : (L1.map (·.2)).Nodup := (pL.map (·.2)).nodup_iff.mpr R.nd
    rw [e2, List.map_map] at n1
    have n2 : ((zs.map (·.2)).map nkD).Nodup := by rw [List.map_map]; exact n1
    exact nodup_of_map n2
  have mem : ∀ d, d ∈ zs.map (·.2) ↔ d ∈ ds := fun d => by
    constructor
    · intro h
      obtain ⟨z, hz, rfl⟩ := List.mem_map.mp h
      exact hds z hz
    · intro h
      have h' : d ∈ (xs.zip ds).map (·.2) := by rw [List.map_snd_zip]; exact h; omega
      obtain ⟨z, hz, rfl⟩ := List.mem_map.mp h'
      have := hg.all (kz z) (by rw [tk]; exact List.mem_map_of_mem hz)
      have := (pL.map (·.2)).mem_iff.mpr this
      rw [e2, List.map_map] at this
      obtain ⟨y, hy, e⟩ := List.mem_map.mp this
      have e' : nkD y.2 = nkD z.2 := e
      rw [← nk_inj y.2 z.2 (b1 _ (hds y hy)).1 (b1 _ h).1 e']
      exact List.mem_map_of_mem hy
  have em : srtL (zs.map (·.2)) = srtL (nubD ds) := srt_unique hb nd mem
  refine wpAny_bind (wpAny_newList ?_ (by rw [sizeLine_eq, evs, List.length_map]; omega))
  have hoL : (s1.heap.push (seqObj "list" vs.toArray 0)).get? s1.heap.objs.size = some (seqObj "list" vs.toArray 0) := Heap.get?_push_size _ rfl
  have each : ∀ {R : Value → V × PyData → Prop} (ys : List (V × PyData)), (∀ z ∈ ys, R (.ref (adV z.1)) z) → PySem.W.EachIs R (ys.map fun z => Value.ref (adV z.1)) ys := by
    intro R ys
    induction ys with
    | nil => intro _; exact .nil
    | cons y ys ih => intro h; exact .cons (h y (by simp)) (ih fun z hz => h z (by simp [hz]))
  refine wpAny_bind (wpAny_holding (PySem.W.list_sort_data (A := A.in1) (β := V × PyData) (R := fun u z => RelV z.1 u) (enc := fun z => z.2) (bs := zs) (vs := vs) (s := { s1 with heap := s1.heap.push (seqObj "list" vs.toArray 0) }) hoL
    (by rw [evs]; exact each zs fun z hz => rv z (hzs z hz)) (by
      rw [evs]
      exact each zs fun z hz => ⟨[], PyProof.Rows.Reads.keeps (fun b u e => Heap.get?_push_of_some _ (k1 b u e)) (rd z (hzs z hz)), by simp⟩)
    (fun d hd d' hd' => c1 d ((mem d).mp hd) d' ((mem d').mp hd')) ?_ (by rw [sizeLine_eq]; omega) (fun b hb => ?_) fun out ho eo => ?_))
  · rcases c2 with q | q
    · exact .inl fun d hd => q d ((mem d).mp hd)
    · exact .inr fun d hd => q d ((mem d).mp hd)
  · have := b2 _ (hds b hb)
    simp only [Around.in1_units]
    omega
  · obtain ⟨c, hc⟩ := sortedHeap_at (vs := vs) (out := out.toArray) hoL
    have vo := vals_of_each eo
    have ez : (zs.mergeSort (PySem.W.dataLe false fun z : V × PyData => z.2)).map (·.2) = srtL (nubD ds) := by
      have q2 := List.map_mergeSort (r := PySem.W.dataLe false fun z : V × PyData => z.2) (s := PySem.W.dataLe false id) (f := fun z : V × PyData => z.2) (l := zs) (fun a _ b _ => rfl)
      rw [q2, ← em, srtL_eq]
    refine wpAny_pure ⟨_, rfl, hQ _ s1.heap.objs.size out c _ (fun b u e => ?_) g1 o1 hz hc vo (by rw [List.length_mergeSort]; exact zl) (fun z hz => hzs z ((List.mergeSort_perm _ _).mem_iff.mp hz)) ez⟩
    have q := k1 b u e
    have hlt := Heap.lt_size q
    show (sortedHeap (s1.heap.push (seqObj "list" vs.toArray 0)) s1.heap.objs.size vs out.toArray).get? b = some u
    rw [sortedHeap_old (Nat.ne_of_lt hlt) (by rw [size_push']; exact Nat.lt_succ_of_lt hlt)]
    exact Heap.get?_push_of_some _ q
end
def tSortSetT (K : PySem.W.Frag) (te : TE) : TE := fun σ H Q => te σ H fun x H1 => ∃ (a : Addr) (xs : List V) (ds : List PyData), x = .ref a ∧ SqL K H1 a xs ∧ DpAll K H1 xs ds ∧ setTB ds = true ∧
  ∀ (p : Addr) (zs : List (V × PyData)), H1 p = none → (∀ z ∈ zs, z ∈ xs.zip ds) → zs.map (·.2) = srtL (nubD ds) → Q (.ref p) (upd H1 p (.lst (zs.map (·.1))))
theorem zip_refs {Z : List (V × PyData)} : ∀ {us : List Value}, Vals (Z.map (·.1)) us → (∀ z ∈ Z, ∃ b, z.1 = V.ref b) → us = Z.map fun z => Value.ref (adV z.1) := by
  induction Z with
  | nil => intro us h _; cases h; rfl
  | cons z Z ih =>
    intro us h hz
    cases h with
    | cons r t =>
      obtain ⟨b, e⟩ := hz z (by simp)
      rw [ih t fun y hy => hz y (by simp [hy])]
      have r' : ∀ u, RelV z.1 u → u = Value.ref b := fun u hu => by rw [e] at hu; exact hu
      rw [r' _ r]
      simp [e, adV]
theorem ref_of_dp {K : PySem.W.Frag} {H : Hp} {v : V} {d : PyData} (h : Dp K H v d) (e : isTupN d = true) : ∃ b, v = V.ref b := by
  cases h <;> first | exact ⟨_, rfl⟩ | cases e
theorem pe_sortSetT {X : Cx} {a : Expr} {te : TE} {p1 p2 q1 q2 : Pos} (hc : X.calm = true) (hu : X.A.units + 70 < cLine) (hg : Gl X "sorted") (hm : X.mg "sorted" = none) (hg2 : Gl X "set") (hm2 : X.mg "set" = none) (ha : PE X a te) (na : starEach [a] X.env = (false, eval a X.env) :: starEach [] X.env := by rfl)
    (nb : starEach [.Call (.Name "set" p2) [a] [] q2] X.env = (false, eval (.Call (.Name "set" p2) [a] [] q2) X.env) :: starEach [] X.env := by rfl) :
    PE X (.Call (.Name "sorted" p1) [.Call (.Name "set" p2) [a] [] q2] [] q1) (tSortSetT X.K te) := by
  refine ⟨fun pins s σ H Q I h => ?_⟩
  refine wpAny_Call_Name_kw (ld_blt I hg hm boot_sorted (PyProof.Rows.callWith_builtin1 (args_cons (Call_ (ld_blt I hg2 hm2 boot_set (PyProof.Rows.callWith_type1 (one_arg ha I h (fun u s1 x H1 I1 r1 q1 => ?_) na) na))) nb) nb))
  obtain ⟨l, xs, ds, rfl, hq, dp, hs, q⟩ := q1
  obtain rfl : u = Value.ref l := r1
  obtain ⟨its, rv, pl, hz⟩ := I1.list hq
  obtain ⟨hl, hdp⟩ := DpAll.zip dp
  have hs' := hs
  unfold setTB at hs'
  simp only [Bool.and_eq_true, List.all_eq_true, decide_eq_true_eq] at hs'
  obtain ⟨⟨⟨b1, b2⟩, b3⟩, b4⟩ := hs'
  have em : (xs.zip ds).map (·.1) = xs := by rw [List.map_fst_zip]; omega
  have zn : ∀ z ∈ xs.zip ds, numD z.2 = true ∧ z.2.depth ≤ 8 := fun z h => ⟨(b1 _ (List.of_mem_zip (a := z.1) (b := z.2) h).2).1, b2 _ (List.of_mem_zip (a := z.1) (b := z.2) h).2⟩
  have zr : ∀ z ∈ xs.zip ds, ∃ b, z.1 = V.ref b := fun z h => ref_of_dp (hdp z.1 z.2 h) (b1 _ (List.of_mem_zip (a := z.1) (b := z.2) h).2).2
  have rel : ∀ z ∈ xs.zip ds, RelV z.1 (.ref (adV z.1)) := fun z h => by
    obtain ⟨b, e⟩ := zr z h
    rw [e]; rfl
  have rd : ∀ z ∈ xs.zip ds, Reads s1.heap (.ref (adV z.1)) z.2 [] := fun z h => by
    obtain ⟨as, r⟩ := Dp.reads I1 z.2 z.1 _ (hdp z.1 z.2 h) (rel z h)
    obtain ⟨_, e⟩ := nk_is z.2 _ as (zn z h).1 r
    rw [e] at r; exact r
  have kk : ∀ p ∈ (xs.zip ds).map kz, IsN s1.heap p.2 p.1 := fun p hp => by
    obtain ⟨z, hz, rfl⟩ := List.mem_map.mp hp
    obtain ⟨n1, n2⟩ := nk_num z.2 (zn z hz).1
    exact ⟨(nk_is z.2 _ _ (zn z hz).1 (rd z hz)).1, by show (nkD z.2).depth ≤ 8; rw [n2]; exact (zn z hz).2, n1⟩
  have lz : (xs.zip ds).length = ds.length := by rw [List.length_zip]; omega
  refine set_nested ((xs.zip ds).map kz) (I1.ok.hd hc) pl.isList (by
    rw [List.map_map]
    have := zip_refs (Z := xs.zip ds) (us := its) (by rw [em]; exact rv) zr
    have e3 : ((fun p : Addr × NestedKey => Value.ref p.1) ∘ kz) = fun z => Value.ref (adV z.1) := rfl
    rw [e3]
    simpa using this) kk (by rw [List.length_map, lz]; exact b3) (by omega) fun h' tk L es ep t R hgot kp => args_nil ?_
  have I2 : Inv X pins σ H1 { s1 with heap := h', toks := tk } := I1.kept (t' := tk) kp
  rw [List.length_map] at hgot
  refine sorted_setN (s := { s1 with heap := h', toks := tk }) R (I2.ok.hd hc) hs hl (fun z hz => PyProof.Rows.Reads.keeps (fun b u e => kp b u e) (rd z hz)) rel hgot (by omega) fun s' p out c zs k g o hp hgp hv zl hzs ez => ?_
  have hn : H1 p = none := I2.hok.fresh hp
  generalize hs2 : ({ s1 with heap := h', toks := tk } : Shared) = s2 at *
  have J : Inv X pins σ (upd H1 p (.lst (zs.map (·.1)))) { s2 with heap := s'.heap, gens := s'.gens, drawn := s'.drawn, toks := s'.toks } :=
    I2.call (ch := []) (Un.laid k hp hn) (I2.hok.laid k hp ⟨by rw [List.length_map]; exact Nat.le_trans (Nat.le_of_lt zl) (by decide), out, c, hv, hgp⟩) (by rw [g]; exact I2.bare) (fun _ z => nomatch z)
  have e : s' = { s2 with heap := s'.heap, gens := s'.gens, drawn := s'.drawn, toks := s'.toks } := by
    cases s'; cases s2; cases o; rfl
  rw [e]
  exact ⟨.ref p, _, J, rfl, q p zs hn hzs ez⟩
def sSetT (f : M R) : M R := f.bnd fun r => un1 (fun d => match d with
  | .list ds => if setTB ds then some (.own (.lst (srtL (nubD ds)))) else none
  | _ => none) r
theorem se_sortSetT {X : Cx} {k : Kx} {E : L2.St → XK} {f : M R} {a : Expr} {p1 p2 q1 q2 : Pos} (hk : X.K = k.K) (hc : X.calm = true) (hu : X.A.units + 70 < cLine) (hg : Gl X "sorted") (hm : X.mg "sorted" = none) (hg2 : Gl X "set") (hm2 : X.mg "set" = none) (ha : PE X a (tE k f E)) (na : starEach [a] X.env = (false, eval a X.env) :: starEach [] X.env := by rfl)
    (nb : starEach [.Call (.Name "set" p2) [a] [] q2] X.env = (false, eval (.Call (.Name "set" p2) [a] [] q2) X.env) :: starEach [] X.env := by rfl) :
    PE X (.Call (.Name "sorted" p1) [.Call (.Name "set" p2) [a] [] q2] [] q1) (tE k (sSetT f) E) :=
  (pe_sortSetT hc hu hg hm hg2 hm2 ha na nb).imp fun σ H Q ⟨c, Γ, F, W, so, po⟩ => ⟨c, Γ, F, W, so, po.seq fun r Γ1 x F1 W1 H1 so1 sm1 r1 po1 => by
    unfold un1 at po1
    split at po1
    · rename_i d hd
      have rd := so1.rd r1 hd
      split at po1
      · rename_i res hr
        dsimp only at hr
        split at hr
        · rename_i ds
          split at hr
          · rename_i hs
            cases hr
            obtain ⟨p, vs, rfl, hp, dt⟩ := rd.lst so1.sub
            rw [hk]
            refine ⟨p, vs, ds, rfl, SqL.of hp, dt.dp so1.sub, hs, fun p' zs hp' hzs em => newLst so1 ?_ po1 p' hp'⟩
            rw [← em]
            exact DtAll.unzip fun z hz => dt.zipped z.1 z.2 (hzs z hz)
          · cases hr
        · cases hr
      · exact po1.elim
    · exact po1.elim⟩
/-! ### sorted of a tuple -/
section
variable {P : Program} {w : World} {A : Around} {E : Value → Shared → Prop} {s : Shared}
theorem collect_tup {l : Addr} {vs : List Value} {Q : List Value → Shared → Prop} (hl : IsTup s.heap l vs.toArray) (hsz : vs.length ≤ sizeLine)
    (h : Q vs { s with heap := (s.heap.push (seqObj "list" #[] 0)).update s.heap.objs.size (Obj.mapSeq (· ++ vs.toArray)) }) :
    wpAny (model P w) A (collect (.ref l)) Q E s := by
  obtain ⟨o, ho, hc, n, hd⟩ := id hl
  unfold collect
  refine wpAny_bind (wpAny_runValue (codeAny_builtin entry_proto_collect' ?_))
  show wpAny _ _ (do again (.builtin "list.__iadd__" ⟨[← newList [], .ref l], []⟩)) _ _ s
  refine wpAny_bind (wpAny_newList (wpAny_pure ⟨Code.quiet_builtin _ (by decide +kernel), codeAny_builtin entry_list_iadd' ?_⟩))
  show wpAny _ _ (Builtin.List.listExtendWith (.ref s.heap.objs.size) (.ref l) (.ref s.heap.objs.size)) _ _ { s with heap := s.heap.push (seqObj "list" #[] 0) }
  unfold Builtin.List.listExtendWith
  have ho' : (s.heap.push (seqObj "list" #[] 0)).get? l = some o := Heap.get?_push_of_some _ ho
  refine wpAny_bind (wpAny_typeOf (T := "tuple") ⟨o, ho', hc⟩ ?_)
  have ht : (Value.type "tuple" == Value.type "tuple") = true := by rfl
  rw [if_pos (by rw [ht]; simp)]
  refine wpAny_bind (listItems_at ho' hd ?_)
  refine wpAny_bind (listItems_at (xs := #[]) (n := 0) (Heap.get?_push_size _ rfl) rfl ?_)
  rw [if_neg (by simp)]
  refine wpAny_bind (listUpdate_at (xs := #[]) (n := 0) (Heap.get?_push_size _ rfl) rfl ?_ (Nat.zero_le _) (by show (#[] ++ vs.toArray).size ≤ sizeLine + 1; simp only [Array.size_append, List.size_toArray, List.length_nil]; omega))
  refine wpAny_pure ?_
  show wpAny (model P w) A (do
      let o ← load s.heap.objs.size
      match o.data with
      | .seq xs _ => pure xs.toList
      | _ => unsupported "internal:collect") Q E { s with heap := (s.heap.push (seqObj "list" #[] 0)).update s.heap.objs.size (Obj.mapSeq (· ++ vs.toArray)) }
  refine wpAny_bind (wpAny_load (get?_update_seq (Heap.get?_push_size _ rfl) _) ?_)
  show wpAny _ _ (pure ((#[] : Array Value) ++ vs.toArray).toList) Q E _
  rw [show ((#[] : Array Value) ++ vs.toArray).toList = vs by simp]
  exact wpAny_pure h
theorem sorted_tupD {β : Type} {R : Value → β → Prop} {enc : β → PyData} {bs : List β} {l : Addr} {vs : List Value} {Q : Value → Shared → Prop} (hl : IsTup s.heap l vs.toArray) (e : PySem.W.EachIs R vs bs) (er : PySem.W.EachIs (fun v b => Reads s.heap v (enc b) []) vs bs) (hal : PySem.W.AllAlike (bs.map enc)) (hk : PySem.W.Sortable (bs.map enc)) (hL : bs.length ≤ 1000)
    (hu : ∀ b, b ∈ bs → A.units + 3 + (enc b).depth < cLine) (h : ∀ out, out.length = bs.length → PySem.W.EachIs R out (bs.mergeSort (PySem.W.dataLe false enc)) → Q (.ref (s.heap.objs.size + 1)) { s with heap := sortedAll s.heap vs (List.toArray out) }) :
    wpAny (model P w) A (call (.builtin "sorted") [.ref l]) Q E s := by
  have hv : vs.length ≤ 1000 := by rw [e.length]; exact hL
  refine Calls.call_function_entry kind_sorted plain_sorted entry_sorted (args_sorted1 _) ?_
  unfold Builtin.«sorted»
  refine wpAny_bind (m := checkCount "sorted" 1 1 _) (wpAny_pure ?_)
  refine wpAny_bind (collect_tup hl (by rw [sizeLine_eq]; omega) ?_)
  refine wpAny_bind (wpAny_newList ?_ (by rw [sizeLine_eq]; omega))
  have hsz : ((s.heap.push (seqObj "list" #[] 0)).update s.heap.objs.size (Obj.mapSeq (· ++ vs.toArray))).objs.size = s.heap.objs.size + 1 := by
    rw [Heap.size_update, size_push']
  have hoL : (((s.heap.push (seqObj "list" #[] 0)).update s.heap.objs.size (Obj.mapSeq (· ++ vs.toArray))).push (seqObj "list" vs.toArray 0)).get? (s.heap.objs.size + 1) = some (seqObj "list" vs.toArray 0) := by
    rw [← hsz]; exact Heap.get?_push_size _ rfl
  have old : ∀ b o, s.heap.get? b = some o → (((s.heap.push (seqObj "list" #[] 0)).update s.heap.objs.size (Obj.mapSeq (· ++ vs.toArray))).push (seqObj "list" vs.toArray 0)).get? b = some o := fun b o q => by
    refine Heap.get?_push_of_some _ ?_
    have hlt := Heap.lt_size q
    have sb : Heap.SameBut s.heap.objs.size (s.heap.push (seqObj "list" #[] 0)) ((s.heap.push (seqObj "list" #[] 0)).update s.heap.objs.size (Obj.mapSeq (· ++ vs.toArray))) := Heap.SameBut.update ..
    rw [sb.2 b (Nat.ne_of_lt hlt)]
    exact Heap.get?_push_of_some _ q
  show wpAny _ _ _ _ _ { s with heap := ((s.heap.push (seqObj "list" #[] 0)).update s.heap.objs.size (Obj.mapSeq (· ++ vs.toArray))).push (seqObj "list" vs.toArray 0) }
  rw [hsz]
  refine wpAny_bind (wpAny_holding (PySem.W.list_sort_data (A := A.in1) (R := R) (enc := enc) (bs := bs) (vs := vs) (s := { s with heap := ((s.heap.push (seqObj "list" #[] 0)).update s.heap.objs.size (Obj.mapSeq (· ++ vs.toArray))).push (seqObj "list" vs.toArray 0) }) hoL e
    (er.mono fun v b r => ⟨[], PyProof.Rows.Reads.keeps old r, by simp⟩) hal hk (by rw [sizeLine_eq]; omega) (fun b hb => by have := hu b hb; simp only [Around.in1_units]; omega) fun out ho eo => ?_))
  exact wpAny_pure ⟨_, rfl, h out ho eo⟩
end
def rSortDT (K : PySem.W.Frag) : List V → Hp → VK → Prop := fun vs H Q => ∃ (a : Addr) (xs : List V) (ds : List PyData), vs = [.ref a] ∧ SqT K H a xs ∧ DpAll K H xs ds ∧ sortB ds = true ∧ ds.all numD = true ∧ ds.length ≤ 1000 ∧
  ∀ (p : Addr) (zs : List (V × PyData)), H p = none → zs.Perm (xs.zip ds) → zs.map (·.2) = srtL ds → Q (.ref p) (upd H p (.lst (zs.map (·.1))))
theorem cr_sortDT {X : Cx} (hu : X.A.units + 70 < cLine) : CallR X (.builtin "sorted") (rSortDT X.K) := by
  intro pins s σ H vs us Q I r h
  obtain ⟨a, xs, ds, rfl, hq, dp, hb, hn, hl1, q⟩ := h
  obtain ⟨u, rfl, ru⟩ := r.one
  obtain rfl : u = Value.ref a := ru
  obtain ⟨its, rv, pl, hz⟩ := I.tuple hq
  obtain ⟨hl, hdp⟩ := DpAll.zip dp
  obtain ⟨b1, b2, b3, b4⟩ := sortB_ok hb
  rw [List.all_eq_true] at hn
  have em : (xs.zip ds).map (·.2) = ds := by
    rw [List.map_snd_zip]; omega
  refine sorted_tupD (β := V × PyData) (R := fun u z => RelV z.1 u) (enc := fun z => z.2) (bs := xs.zip ds) (vs := its) pl (each_of rv hl fun u v d r _ => r)
    (each_of rv hl fun u v d r hm => ?_) (by show PySem.W.AllAlike ((xs.zip ds).map (·.2)); rw [em]; exact b1) (by show PySem.W.Sortable ((xs.zip ds).map (·.2)); rw [em]; exact b2)
    (by rw [List.length_zip]; exact Nat.le_trans (Nat.min_le_right _ _) hl1) (fun b hb => ?_) fun out ho eo => ?_
  · obtain ⟨as, rr⟩ := Dp.reads I d v u (hdp v d hm) r
    obtain ⟨_, e⟩ := nk_is d _ as (hn d (List.of_mem_zip hm).2) rr
    rw [e] at rr; exact rr
  · have : b.2 ∈ ds := by rw [← em]; exact List.mem_map_of_mem hb
    have := b3 _ this
    omega
  · obtain ⟨e, he⟩ := PyProof.Rows.sortedAll_at s.heap its (List.toArray out)
    have vo := vals_of_each eo
    refine ⟨.ref (s.heap.objs.size + 1), upd H (s.heap.objs.size + 1) (.lst _), I.laid (t' := s.toks) (fun b o e => PyProof.Rows.sortedAll_old e) (Nat.le_succ _) ⟨?_, out, e, vo, he⟩, rfl,
      q _ _ (I.hok.fresh (Nat.le_succ _)) (List.mergeSort_perm _ _) ?_⟩
    · rw [List.length_map, List.length_mergeSort, List.length_zip]; exact Nat.le_trans (Nat.min_le_right _ _) (mil b4)
    · rw [srtL_eq]
      have q2 := List.map_mergeSort (r := PySem.W.dataLe false fun z : V × PyData => z.2) (s := PySem.W.dataLe false id) (f := fun z : V × PyData => z.2) (l := xs.zip ds) (fun a _ b _ => rfl)
      rw [q2, em]
section
variable {k : Kx} {X : Cx}
def dSortedT : List PyData → Option R
  | [.tuple ds] => if sortB ds && ds.all numD && decide (ds.length ≤ 1000) then some (.own (.lst (srtL ds))) else none
  | _ => none
theorem cS_sortedT : CallS k (rSortDT k.K) dSortedT := fun c Γ σ F W H xs ds res Q so rs e f => by
  unfold dSortedT at e
  split at e
  · rename_i ds
    split at e
    · rename_i hb
      cases e
      simp only [Bool.and_eq_true, decide_eq_true_eq] at hb
      obtain ⟨v, rfl, r⟩ := rs.one
      obtain ⟨p, vs, rfl, _, hp, dt⟩ := r.tup so.sub
      refine ⟨p, vs, ds, rfl, SqT.of hp, dt.dp so.sub, hb.1.1, hb.1.2, hb.2, fun p' zs hp' pm em => newLst so ?_ f p' hp'⟩
      rw [← em]
      exact DtAll.unzip fun z hz => dt.zipped z.1 z.2 (pm.mem_iff.mp hz)
    · cases e
  · cases e
theorem cr_sortedT' (hk : X.K = k.K) (hu : X.A.units + 70 < cLine) : CallR X (.builtin "sorted") (rSortDT k.K) := by rw [← hk]; exact cr_sortDT hu
end
/-! ### meanings -/
def m_L_bestT (g : En → Rs R) : M Fl := sSeq (sIf (tst (bin dEq (eVar 0) (mkLst (aNil)))) (sRet (mkLst (aLast (sto (mkTup (aNil)))))) (sNx)) (sSeq (sAsg 3 (sto (mkLst (aNil)))) (sSeq (sFor (iSq (eVar 1)) (tgN 4) (sSeq (sAsg 5 (sto (callV 1 g_L_numbers (aLast (sto (eVar 4)))))) (sSeq (sAsg 6 (sto (bin dAdd (callD dLen (aLast (callV 1 g_L_word (aLast (sto (eVar 4)))))) (eC (.int 1))))) (sIf (mAnd (tst (bin dIn (bin dIx (eVar 0) (eC (.int 0))) (eVar 5))) (tst (bin dLe (eVar 6) (eVar 2)))) (sSeq (sAsg 7 (sto (lcM (iSq (eVar 0)) (tgN 9) (tst (bin dNotIn (eVar 9) (eVar 5))) (eVar 9) [9]))) (sFor (iSq (callV 3 g (aCons (sto (eVar 7)) (aCons (sto (eVar 1)) (aLast (sto (bin dSub (eVar 2) (eVar 6)))))))) (tgN 8) (sAsg 3 (sto (bin dAdd (eVar 3) (mkLst (aLast (sto (callD dTuple (aLast (callD dSortedT (aLast (bin dAdd (mkTup (aLast (sto (eVar 4)))) (eVar 8)))))))))))))) (sNx))))) (sRet (sSetT (eVar 3)))))
def g_L_bestT : Nat → En → Rs R
  | 0 => fun _ => .bad
  | n + 1 => fnP (m_L_bestT (g_L_bestT n)) 7
def m_covers_fromT (g : En → Rs R) : M Fl := sSeq (sIf (tst (bin dEq (eVar 0) (mkTup (aNil)))) (sRet (mkLst (aLast (sto (mkTup (aNil)))))) (sNx)) (sSeq (sAsg 3 (mkLst (aNil))) (sSeq (sFor (iSq (eVar 1)) (tgT [4, 5, 6]) (sIf (tst (bin dIn (bin dIx (eVar 0) (eC (.int 0))) (eVar 5))) (sSeq (sAsg 7 (sto (callD dTuple (aLast (lcM (iSq (eVar 0)) (tgN 8) (tst (bin dNotIn (eVar 8) (eVar 5))) (eVar 8) [8]))))) (sIf (tst (bin dEq (bin dAdd (eVar 6) (callIO 3 (g_least_from 12) (aCons (sto (eVar 7)) (aCons (sto (eVar 1)) (aLast (eVar 2)))))) (callIO 3 (g_least_from 12) (aCons (sto (eVar 0)) (aCons (sto (eVar 1)) (aLast (eVar 2))))))) (augM 3 (lcM (iSq (callIO 3 g (aCons (sto (eVar 7)) (aCons (sto (eVar 1)) (aLast (eVar 2)))))) (tgN 9) (M.ret true) (callD dTuple (aLast (callD dSortedT (aLast (bin dAdd (mkTup (aLast (sto (eVar 4)))) (eVar 9)))))) [9])) (sNx))) (sNx))) (sRet (sSetT (eVar 3)))))
def g_covers_fromT : Nat → En → Rs R
  | 0 => fun _ => .bad
  | n + 1 => fnP (m_covers_fromT (g_covers_fromT n)) 7
def m_covers_ofT : M Fl := sRet (callIO 3 (g_covers_fromT 12) (aCons (sto (callD dTuple (aLast (eVar 0)))) (aCons (sto (callV 1 g_weighed (aLast (sto (eVar 0))))) (aLast (newT)))))
def g_covers_ofT : En → Rs R := fnP m_covers_ofT 0
def m_shortest_coversT : M Fl := sSeq (sDrop (callV 1 g_check_set (aLast (sto (eVar 0))))) (sRet (lcM (iSq (callV 1 g_covers_ofT (aLast (sto (eVar 0))))) (tgN 1) (M.ret true) (callD dList (aLast (eVar 1))) [1]))
def g_shortest_coversT : En → Rs R := fnX m_shortest_coversT 1
def m_count_shortestT : M Fl := sSeq (sDrop (callV 1 g_check_set (aLast (sto (eVar 0))))) (sSeq (sAsg 1 (eC (.int 0))) (sSeq (sFor (iSq (callV 1 g_covers_ofT (aLast (sto (eVar 0))))) (tgN 2) (sSeq (sAsg 3 (eC (.int 1))) (sSeq (sFor (iRg rg1 (aLast (callD dLen (aLast (eVar 2))))) (tgN 4) (augMul 3 (bin dAdd (eVar 4) (eC (.int 1))))) (augM 1 (eVar 3))))) (sRet (eVar 1))))
def g_count_shortestT : En → Rs R := fnX m_count_shortestT 4
def m_first_shortestT : M Fl := sSeq (sDrop (callV 1 g_check_set (aLast (sto (eVar 0))))) (sRet (met1 dJoin (eC (.str ",")) (lcM (iSq (bin dIx (callV 1 g_covers_ofT (aLast (sto (eVar 0)))) (eC (.int 0)))) (tgN 1) (M.ret true) (callV 1 g_text_of (aLast (sto (eVar 1)))) [1])))
def g_first_shortestT : En → Rs R := fnX m_first_shortestT 1
end Rt
namespace Rt
open PySem PySem.Spec PyProof.Rows L2
/-! ### t[::-1], t a tuple with items -/
section
variable {P : Program} {w : World} {A : Around} {E : Value → Shared → Prop} {s : Shared}
theorem adjust_rev (n : Nat) : Builtin.Slice.sliceAdjust none none (-1) (n : Int) = ((n : Int) - 1, -1) := by
  unfold Builtin.Slice.sliceAdjust
  have h1 : ((-1 : Int) < 0) := by omega
  simp only [h1, if_true]
theorem places_rev (n : Nat) (h : 0 < n) : Builtin.Slice.slicePlaces ((n : Int) - 1) (-1) (-1) = n := by
  unfold Builtin.Slice.slicePlaces
  have h1 : ¬ ((-1 : Int) > 0) := by omega
  have h2 : ((n : Int) - 1) > -1 := by omega
  have h3 : -(-1 : Int) = 1 := by omega
  simp only [h1, h2, if_true, if_false, h3, Int.ediv_one]
  omega
theorem applied_rev {sl : Addr} {vs : Value} {n : Nat} {Q : Int × Int × Nat → Shared → Prop} (hs : s.heap.IsSliceOf sl .none .none vs) (ps : IsPart vs (some (-1))) (hn : 0 < n) (h : Q ((n : Int) - 1, -1, n) s) :
    wpAny (model P w) A (Builtin.Slice.sliceApplied (.ref sl) (pure (n : Int))) Q E s := by
  obtain ⟨os, hos, hcs, hds⟩ := id hs
  unfold Builtin.Slice.sliceApplied Builtin.Slice.sliceFields
  refine wpAny_bind (wpAny_bind (wpAny_field hos hds (x := .none) rfl (wpAny_bind (wpAny_field hos hds (x := .none) rfl (wpAny_bind (wpAny_field hos hds (x := vs) rfl (wpAny_pure ?_)))))))
  refine wpAny_bind (HT.slicePart_ ps ?_)
  show wpAny _ _ (if ((-1 : Int) == 0) = true then _ else _) _ _ s
  rw [if_neg (by decide)]
  refine wpAny_bind (slicePart_none (wpAny_bind (slicePart_none (wpAny_bind (wpAny_pure ?_)))))
  show wpAny _ _ (match Builtin.Slice.sliceAdjust none none (-1) (n : Int) with | (lo, hi) => pure (lo, (-1 : Int), Builtin.Slice.slicePlaces lo hi (-1))) _ _ s
  rw [adjust_rev]
  show wpAny _ _ (pure ((n : Int) - 1, (-1 : Int), Builtin.Slice.slicePlaces ((n : Int) - 1) (-1) (-1))) _ _ s
  rw [places_rev n hn]
  exact wpAny_pure h
theorem pick_rev (xs : List Value) : ((List.range xs.length).filterMap fun (k : Nat) => xs.toArray[((xs.length : Int) - 1 + (k : Int) * (-1)).toNat]?) = xs.reverse := by
  apply List.ext_getElem?
  intro j
  have key : ∀ m, m ≤ xs.length → (List.range m).filterMap (fun (k : Nat) => xs.toArray[((xs.length : Int) - 1 + (k : Int) * (-1)).toNat]?) = xs.reverse.take m := by
    intro m
    induction m with
    | zero => intro _; simp
    | succ m ih =>
      intro hm
      rw [List.range_succ, List.filterMap_append, ih (by omega), List.take_add_one]
      congr 1
      have e : ((xs.length : Int) - 1 + (m : Int) * (-1)).toNat = xs.length - 1 - m := by omega
      have e2 : xs.reverse[m]? = xs[xs.length - 1 - m]? := by rw [List.getElem?_reverse (by omega)]
      simp only [List.filterMap_cons, List.filterMap_nil, e, List.getElem?_toArray, e2]
      cases xs[xs.length - 1 - m]? <;> rfl
  rw [key _ (Nat.le_refl _), List.take_of_length_le (by simp)]
theorem getItem_tuple_rev {t sl : Addr} {items : List Value} {vs : Value} {Q : Value → Shared → Prop} (ht : IsTup s.heap t items.toArray) (hs : s.heap.IsSliceOf sl .none .none vs) (ps : IsPart vs (some (-1))) (hn : items ≠ [])
    (h : Q (.ref s.heap.objs.size) { s with heap := s.heap.push { cls := .type "tuple", data := .seq items.reverse.toArray } })
    (hsz : items.length ≤ sizeLine) : wpAny (model P w) A (getItem (.ref t) (.ref sl)) Q E s := by
  have hok : sizeOk (.seq items.reverse.toArray) := by
    show items.reverse.toArray.size ≤ sizeLine
    rw [List.size_toArray, List.length_reverse]
    exact hsz
  have hl : 0 < items.length := List.length_pos_iff.mpr hn
  obtain ⟨os, hos, hcs, hds⟩ := id hs
  have hTs : s.TypeIs (.ref sl) "slice" := ⟨os, hos, hcs⟩
  unfold getItem
  try with_reducible refine wpAny_holding ?_
  first | refine wpAny_bind (wpAny_pure ?_) | skip
  refine wpAny_bind (wpAny_sequenceKey ht.typeIs (by decide) ?_)
  refine wpAny_bind (wpAny_callSpecial?_slot (name := Str.ofString "__getitem__") ht.typeIs slot_tuple_getitem
    (wpAny_call_entry slot_tuple_getitem ht.typeIs entry_tuple_getitem ?_ (args_tuple_getitem _ _)))
  show wpAny _ _ (Builtin.Tuple.tupleItemsOf (.ref t) >>= _) _ _ s
  refine wpAny_bind (tupleItemsOf_ ht ?_)
  refine wpAny_bind (wpAny_typeOf hTs ?_)
  rw [if_pos (by decide)]
  refine wpAny_bind (applied_rev (n := items.length) (by exact hs) ps hl ?_)
  have hno : ¬ ((((items.length : Int) - 1) == 0 && (-1 : Int) == 1 && items.length == items.toArray.size) = true) := by
    have : ((-1 : Int) == 1) = false := by decide
    rw [this]; simp
  show wpAny _ _ (if (((items.length : Int) - 1) == 0 && (-1 : Int) == 1 && items.length == items.toArray.size) = true then _ else _) _ _ s
  rw [if_neg hno, pick_rev items]
  first
    | exact wpAny_bind (m := Builtin.Tuple.tupleExact _) (wpAny_newObj_type (wpAny_pure ⟨_, rfl, wpAny_pure h⟩) hok)
    | exact wpAny_bind (m := Builtin.Tuple.tupleExact _) (wpAny_newObj_type (wpAny_bind (wpAny_pure (wpAny_pure ⟨_, rfl, wpAny_pure h⟩))) hok)
    | exact wpAny_bind (wpAny_bind (m := Builtin.Tuple.tupleExact _) (wpAny_newObj_type (wpAny_pure (wpAny_pure ⟨_, rfl, wpAny_pure h⟩)) hok))
    | exact wpAny_bind (wpAny_bind (m := Builtin.Tuple.tupleExact _) (wpAny_newObj_type (wpAny_pure ⟨_, rfl, wpAny_pure h⟩) hok))
end
def tRevT (K : PySem.W.Frag) (te : TE) : TE := fun σ H Q => te σ H fun x H1 => ∃ a xs, x = .ref a ∧ SqT K H1 a xs ∧ xs ≠ [] ∧ ∀ p, H1 p = none → Q (.ref p) (upd H1 p (.tup xs.reverse))
theorem pe_revT {X : Cx} {e : Expr} {te : TE} {k : Nat} {p1 p2 p3 pos : Pos} (he : PE X e te) : PE X (.Subscript e (.Slice none none (some (.UnaryOp .USub (.Constant (.int 1) k p1) p2)) p3) pos) (tRevT X.K te) := by
  refine ⟨fun pins s σ H Q I h => ?_⟩
  refine Subscript_ (thn (he.run pins s σ H _ I h) fun v s1 ⟨x, H1, I1, r1, q1⟩ => ?_)
  obtain ⟨a, xs, ex, hx, hne, q⟩ := q1
  subst ex
  cases r1
  have hst : PO X (some (.UnaryOp .USub (.Constant (.int 1) k p1) p2)) (tPart (tUn (rU fun i => .int (-i)) (tC (.int 1)))) := po_some (pe_un un_neg pe_int)
  refine wpAny_Slice (thn (po_none.run pins s1 σ H1 (fun o H2 => o = none ∧ H2 = H1) I1 ⟨rfl, rfl⟩) fun vl s2 ⟨l, H2, I2, pl, el, e2⟩ => ?_)
  subst el e2
  refine thn (po_none.run pins s2 σ H2 (fun o H3 => o = none ∧ H3 = H2) I2 ⟨rfl, rfl⟩) fun vu s3 ⟨u, H3, I3, pu, eu, e3⟩ => ?_
  subst eu e3
  refine thn (hst.run pins s3 σ H3 (fun o H4 => o = some (-1) ∧ H4 = H3) I3 ⟨1, rfl, -1, rfl, rfl, rfl⟩) fun vs s4 ⟨o, H4, I4, ps, eo, e4⟩ => ?_
  subst eo e4
  cases pl
  cases pu
  have I5 : Inv X pins σ H4 { s4 with heap := s4.heap.push { cls := .type "slice", data := .fields #[.none, .none, vs] } } := I4.kept (t' := s4.toks) fun b ob q => Heap.get?_push_of_some _ q
  obtain ⟨its, r, ht, hz⟩ := I5.tuple hx
  have hlen := r.length
  have hin : its ≠ [] := fun z => hne (List.eq_nil_of_length_eq_zero (by rw [z] at hlen; simpa using hlen))
  show wpAny (model X.prog X.w) X.A (subscriptTail e (.Slice none none (some (.UnaryOp .USub (.Constant (.int 1) k p1) p2)) p3) (.ref a) (.ref s4.heap.objs.size)) (EP X pins σ Q) X.xe { s4 with heap := s4.heap.push { cls := .type "slice", data := .fields #[.none, .none, vs] } }
  refine tail_any (ops := [.ref a, .ref s4.heap.objs.size]) ht.typeIs slot_tuple_getitem.lookup ?_ (by with_unfolding_all rfl)
  refine getItem_tuple_rev ht (Heap.IsSliceOf.new _ .none .none vs) ps hin ?_ (by omega)
  refine ⟨.ref _, _, I5.laid (t' := s4.toks) (o := .tup xs.reverse) (fun b ob q => Heap.get?_push_of_some _ q) (Nat.le_refl _) ?_, rfl, q _ (I5.hok.fresh (Nat.le_refl _))⟩
  first
    | exact ⟨by rw [List.length_reverse]; exact hz, _, r.reverse, ⟨_, Heap.get?_push_size _ rfl, rfl, 0, rfl⟩⟩
    | exact ⟨by rw [List.length_reverse]; exact hz, _, 0, r.reverse, Heap.get?_push_size _ rfl⟩
def revT (f : M R) : M R := f.bnd fun r => un1 (fun d => match d with
  | .tuple ds => if ds.isEmpty then none else some (.val (.tuple ds.reverse))
  | _ => none) r
theorem se_revT {X : Cx} {k : Kx} {E : L2.St → XK} {fa : M R} {a : Expr} {n : Nat} {p1 p2 p3 pos : Pos} (hk : X.K = k.K) (ha : PE X a (tE k fa E)) : PE X (.Subscript a (.Slice none none (some (.UnaryOp .USub (.Constant (.int 1) n p1) p2)) p3) pos) (tE k (revT fa) E) :=
  (pe_revT ha).imp fun σ H Q ⟨c, Γ, F, W, so, po⟩ => ⟨c, Γ, F, W, so, po.seq fun ra Γ1 x F1 W1 H1 so1 sm1 r1 po1 => by
    unfold un1 at po1
    split at po1
    · rename_i d hd
      have rd := so1.rd r1 hd
      split at po1
      · rename_i res hr
        dsimp only at hr
        split at hr
        · rename_i ds
          split at hr
          · cases hr
          · rename_i he
            cases hr
            obtain ⟨p, vs, rfl, _, hp, dt⟩ := rd.tup so1.sub
            refine ⟨p, vs, rfl, SqT.of hp, fun z => ?_, newTup so1 dt.reverse po1⟩
            subst z
            cases dt
            exact he rfl
        · cases hr
      · exact po1.elim
    · exact po1.elim⟩
end Rt
namespace Rt
open PySem PySem.Spec PyProof.Rows L2
/-! ### the class Marker: an object of one's own with two fields -/
/-- one of two meanings: the first that has one -/
def alt (f g : M R) : M R := fun Γ => match f Γ with
  | .bad => g Γ
  | r => r
section
variable {X : Cx} {k : Kx} {E : L2.St → XK} {e : Expr} {f g : M R}
theorem se_alt (h1 : PE X e (tE k f E)) (h2 : PE X e (tE k g E)) : PE X e (tE k (alt f g) E) := by
  refine ⟨fun pins s σ H Q I ⟨c, Γ, F, W, so, po⟩ => ?_⟩
  cases q : f Γ with
  | bad =>
    refine h2.run pins s σ H Q I ⟨c, Γ, F, W, so, ?_⟩
    unfold alt at po
    rw [q] at po
    exact po
  | ok a g1 =>
    refine h1.run pins s σ H Q I ⟨c, Γ, F, W, so, ?_⟩
    unfold alt at po
    rw [q] at po ⊢
    exact po
  | exc n g1 =>
    refine h1.run pins s σ H Q I ⟨c, Γ, F, W, so, ?_⟩
    unfold alt at po
    rw [q] at po ⊢
    exact po
end
section
variable {k : Kx} {c : Gc} {Γ : En} {σ : L2.St} {F : Hp} {W : Wm} {H : Hp}
/-- a part of the object at i changes -/
theorem SOk.mutI {i : Nat} {kk : Option Nat} {o o' : Ob} {p b : Addr} {u : HO} (so : SOk k c Γ σ F W H) (hg : Γ[i]? = some (.own kk o)) (hσ : σ[i]? = some (some (.ref p))) (hw : W b = some (.slot i)) (hn : OwnOk k F (upd H b u) (fun a => W a = some (.slot i)) p o') : SOk k c (Γ.set i (.own kk o')) σ F W (upd H b u) := by
  refine ⟨fun d v e => ?_, fun a v e => ?_, fun a j e => ?_, fun j s hj => ?_, by simpa using so.len⟩
  · rw [upd_ne (fun z => by rw [z, (so.ow b _ hw).1] at e; cases e)]; exact so.sub d v e
  · obtain ⟨h1, h2, h3⟩ := so.fr a v e
    exact ⟨by rw [upd_ne (fun z => by rw [z, hw] at h3; cases h3)]; exact h1, h2, h3⟩
  · obtain ⟨h1, v, h2⟩ := so.ow a j e
    refine ⟨h1, ?_⟩
    by_cases ha : a = b
    · subst ha; exact ⟨u, upd_same⟩
    · exact ⟨v, by rw [upd_ne ha]; exact h2⟩
  · rcases set_cases hj with ⟨rfl, rfl⟩ | ⟨hne, hj⟩
    · obtain ⟨q', h1, h2, _⟩ := so.sl j _ hg
      rw [hσ] at h1; cases h1
      exact ⟨p, hσ, h2, hn⟩
    · refine (so.sl j s hj).keep (Same.refl F) fun a ha => ⟨ha, upd_ne fun z => ?_⟩
      rw [z, hw] at ha; cases ha; exact hne rfl
end
abbrev nD1 (l : List Int) : D := .list (l.map PyData.int)
/-- what is known of the class -/
structure MkF (K : PySem.W.Frag) : Prop where
  c : Cls K (CK K 9)
  now : NoAttr K (CK K 9) "now"
  past : NoAttr K (CK K 9) "past"
section
variable {X : Cx} {E : L2.St → XK} {pos px apos p2 p3 : Pos} {x : Str} {i : Nat}
/-- self.now -/
def nowM (i : Nat) : M R := fun Γ => match Γ[i]? with
  | some (.own _ (.mrk now _)) => .ok (.val (nD1 now)) Γ
  | _ => .bad
theorem se_now (m : MkF X.K) (ho : PE X (.Name x px) (tVar i)) (hb : attributeBase (.Name x px) "now" X.env (eval (.Name x px) X.env) = eval (.Name x px) X.env := by rfl) : PE X (.Attribute (.Name x px) "now" pos) (tE ⟨X.K, CK X.K⟩ (nowM i) E) :=
  (pe_fld ho hb).imp fun σ H Q ⟨c, Γ, F, W, so, po⟩ => by
    unfold nowM at po
    split at po
    · rename_i kk now past hg
      obtain ⟨p, hσ, _, h1, dx, q, vn, xs, h2, h3, n1, n2, n3, h4, h5, h6, h7, h8⟩ := so.sl i _ hg
      exact ⟨.ref p, hσ, p, CK X.K 9, dx, _, vn, rfl, h4, m.c, m.now, rfl, po vn F W H so (Same.refl F) h6⟩
    · exact po.elim
/-- self.past == [] -/
def pastNil (i : Nat) : M R := fun Γ => match Γ[i]? with
  | some (.own _ (.mrk _ past)) => if SeqAt.shaped (.list (past.map nD1)) then .ok (.val (.bool past.isEmpty)) Γ else .bad
  | _ => .bad
/-- self.past.append(self.now) -/
def pushM (i : Nat) : M R := fun Γ => match Γ[i]? with
  | some (.own kk (.mrk now past)) => if past.length < 1000000 then .ok (.val .none) (Γ.set i (.own kk (.mrk now (past ++ [now])))) else .bad
  | _ => .bad
theorem se_push (m : MkF X.K) (ho : PE X (.Name x px) (tVar i)) (ho' : PE X (.Name x p2) (tVar i)) (hb : attributeBase (.Name x px) "past" X.env (eval (.Name x px) X.env) = eval (.Name x px) X.env := by rfl)
    (hb' : attributeBase (.Name x p2) "now" X.env (eval (.Name x p2) X.env) = eval (.Name x p2) X.env := by rfl) {ap np : Pos}
    (hbase : attributeBase (.Attribute (.Name x px) "past" ap) "append" X.env (eval (.Attribute (.Name x px) "past" ap) X.env) = eval (.Attribute (.Name x px) "past" ap) X.env := by rfl)
    (hfew : ((backTo pos (starEach [.Attribute (.Name x p2) "now" np] X.env)).all (fun x => !x.1) && (backToKw pos (keywordEach [] X.env)).all (fun x => x.1.isSome)
      && decide ([Expr.Attribute (.Name x p2) "now" np].length + ([] : List Keyword).length + (if ([] : List Keyword).isEmpty then 0 else 1) < 30)) = true := by rfl)
    (hline : (apos.endLine == pos.line) = true := by rfl) (hs : starEach [.Attribute (.Name x p2) "now" np] X.env = (false, eval (.Attribute (.Name x p2) "now" np) X.env) :: starEach [] X.env := by rfl) :
    PE X (.Call (.Attribute (.Attribute (.Name x px) "past" ap) "append" apos) [.Attribute (.Name x p2) "now" np] [] pos) (tE ⟨X.K, CK X.K⟩ (pushM i) E) :=
  (pe_bm PySem.F.plainAttrs_list PySem.F.slot_list_append PySem.F.type_list_append mt_append (pe_fld ho hb) (pa_cons (pe_fld ho' hb') pa_nil hs) hbase hfew hline hs).imp fun σ H Q ⟨c, Γ, F, W, so, po⟩ => by
    unfold pushM at po
    split at po
    · rename_i kk now past hg
      split at po
      · rename_i hz
        obtain ⟨p, hσ, _, h1, dx, q, vn, xs, h2, h3, n1, n2, n3, h4, h5, h6, h7, h8⟩ := so.sl i _ hg
        refine ⟨.ref p, hσ, p, CK X.K 9, dx, _, .ref q, rfl, h4, m.c, m.past, rfl, .inl ⟨rfl, xs, SqL.of h7⟩, .ref p, hσ, p, CK X.K 9, dx, _, vn, rfl, h4, m.c, m.now, rfl, ?_⟩
        refine ⟨q, xs, vn, rfl, rfl, h7, ?_, po .non F W _ (so.mutI hg hσ h3 ⟨h1, dx, q, vn, xs ++ [vn], h2, h3, n1, n2, n3, ?_, ?_, h6, upd_same, ?_⟩) (Same.refl F) .non⟩
        · have := h8.length
          rw [this, List.length_map]
          exact lt_mil hz
        · rw [upd_ne (Ne.symm n2)]; exact h4
        · rw [upd_ne (Ne.symm n3)]; exact h5
        · rw [List.map_append]
          exact h8.append (.cons h6 .nil)
      · exact po.elim
    · exact po.elim
/-- self.now = e -/
def setNow (i : Nat) (f : M R) : M Fl := f.bnd fun r => (stD r).bnd fun d Γ => match Γ[i]?, d with
  | some (.own kk (.mrk _ past)), .list ds => (match intsOf ds with
    | some ns => .ok .nx (Γ.set i (.own kk (.mrk ns past)))
    | none => .bad)
  | _, _ => .bad
theorem ss_now {f : M R} {e : Expr} {tp : Pos} (m : MkF X.K) (ho : PE X (.Name x px) (tVar i)) (he : PE X e (tE ⟨X.K, CK X.K⟩ f E)) (hs : swapsWith e (some (.Attribute (.Name x px) "now" tp)) pos.line X.env = pure false := by rfl) :
    PS X (.Assign [.Attribute (.Name x px) "now" tp] e pos) (tS ⟨X.K, CK X.K⟩ (setNow i f) E) :=
  (ps_fld ho he hs).imp fun D σ H ⟨c, Γ, F, W, so, po⟩ => ⟨c, Γ, F, W, so, po.seqE fun r Γ1 v F1 W1 H1 so1 sm1 r1 po1 => by
    obtain ⟨d, Γ2, F2, W2, so2, sm2, dt, po2⟩ := st_stepS so1 r1 po1
    split at po2
    · rename_i kk now past ds hg
      split at po2
      · rename_i ns hi
        obtain ⟨p, hσ, _, h1, dx, q, vn, xs, h2, h3, n1, n2, n3, h4, h5, h6, h7, h8⟩ := so2.sl i _ hg
        rw [intsOf_ok hi] at dt
        refine ⟨.ref p, hσ, p, CK X.K 9, dx, _, rfl, h4, m.c, m.now, (by simp), po2 σ F2 W2 _ (so2.mutI hg hσ h1 ⟨h1, dx, q, v, xs, h2, h3, n1, n2, n3, upd_same, ?_, dt, ?_, h8⟩) (Same.refl F2)⟩
        · rw [upd_ne n1]; exact h5
        · rw [upd_ne n2]; exact h7
      · exact po2.elim
    · exact po2.elim⟩
theorem pastNil_ok (m : MkF X.K) : ∀ σ H Q, tE ⟨X.K, CK X.K⟩ (pastNil i) E σ H Q → tOp (fun x y H Q => rEq x y H Q ∨ rEqD X.K x y H Q) (tFld X.K (tVar i) "past") (tLst tNil) σ H Q := fun σ H Q ⟨c, Γ, F, W, so, po⟩ => by
    unfold pastNil at po
    split at po
    · rename_i kk now past hg
      split at po
      case isFalse => exact po.elim
      rename_i hsh
      obtain ⟨p, hσ, _, h1, dx, q, vn, xs, h2, h3, n1, n2, n3, h4, h5, h6, h7, h8⟩ := so.sl i _ hg
      refine ⟨.ref p, hσ, p, CK X.K 9, dx, _, .ref q, rfl, h4, m.c, m.past, rfl, Nat.zero_le _, fun l hl => .inr ⟨.list (past.map nD1), .list [], ?_, ?_, ?_, ?_, ?_⟩⟩
      · have hq : q ≠ l := fun z => by rw [z, hl] at h7; cases h7
        have so' := so.newT (o := HO.lst []) hl
        exact .lst (SqL.of (by rw [upd_ne hq]; exact h7)) (h8.dp so'.sub)
      · exact .lst (SqL.of upd_same) .nil
      · exact hsh
      · decide +kernel
      · have e : PyData.eqv (.list (past.map nD1)) (.list []) = past.isEmpty := by
          cases past <;> simp [PyData.eqv, PyData.eqvAll]
        rw [e]
        exact po _ F _ _ (so.newT hl) (Same.refl F) (.bl _)
    · exact po.elim
theorem se_pastNil {ap lp : Pos} (m : MkF X.K) (hc : OpR X (compareOp .Eq) fun x y H Q => rEq x y H Q ∨ rEqD X.K x y H Q) (ho : PE X (.Name x px) (tVar i)) (hb : attributeBase (.Name x px) "past" X.env (eval (.Name x px) X.env) = eval (.Name x px) X.env := by rfl) (hm : behindInMarks .Eq (.List [] lp) = false := by rfl) :
    PE X (.Compare (.Attribute (.Name x px) "past" ap) [.Eq] [.List [] lp] pos) (tE ⟨X.K, CK X.K⟩ (pastNil i) E) :=
  (pe_cmpR hc (pe_fld ho hb) (pe_lst pa_nil) hm).imp (pastNil_ok m)
theorem st_pastNil {ap lp : Pos} (m : MkF X.K) (hc : OpR X (compareOp .Eq) fun x y H Q => rEq x y H Q ∨ rEqD X.K x y H Q) (ho : PE X (.Name x px) (tVar i)) (hb : attributeBase (.Name x px) "past" X.env (eval (.Name x px) X.env) = eval (.Name x px) X.env := by rfl) (hm : behindInMarks .Eq (.List [] lp) = false := by rfl) :
    PT X (.Compare (.Attribute (.Name x px) "past" ap) [.Eq] [.List [] lp] pos) (tT ⟨X.K, CK X.K⟩ (tst (pastNil i)) E) :=
  (pt_cmpR hc (pe_fld ho hb) (pe_lst pa_nil) hm).imp fun σ H Q h => by
    obtain ⟨c, Γ, F, W, so, po⟩ := tst_ok σ H Q h
    exact pastNil_ok m σ H _ ⟨c, Γ, F, W, so, po⟩
theorem DtAll.snoc {F : Hp} : ∀ {ds : List D} {d : D} {xs : List V}, DtAll F xs (ds ++ [d]) → ∃ xs' v, xs = xs' ++ [v] ∧ DtAll F xs' ds ∧ Dt F v d
  | [], d, _, .cons a .nil => ⟨[], _, rfl, .nil, a⟩
  | e :: ds, d, _, .cons a r => by
    obtain ⟨xs', v, rfl, h1, h2⟩ := DtAll.snoc r
    exact ⟨_ :: xs', v, rfl, .cons a h1, h2⟩
/-- self.now = self.past.pop() -/
def popM (i : Nat) : M Fl := fun Γ => match Γ[i]? with
  | some (.own kk (.mrk _ past)) => (match past.getLast? with
    | some l => .ok .nx (Γ.set i (.own kk (.mrk l past.dropLast)))
    | none => .bad)
  | _ => .bad
theorem ss_pop {ap tp cp : Pos} {px' : Pos} (m : MkF X.K) (ho : PE X (.Name x px) (tVar i)) (ho' : PE X (.Name x px') (tVar i)) (hb : attributeBase (.Name x px') "past" X.env (eval (.Name x px') X.env) = eval (.Name x px') X.env := by rfl)
    (hbase : attributeBase (.Attribute (.Name x px') "past" ap) "pop" X.env (eval (.Attribute (.Name x px') "past" ap) X.env) = eval (.Attribute (.Name x px') "past" ap) X.env := by rfl) (hline : (apos.endLine == cp.line) = true := by rfl)
    (hs : swapsWith (.Call (.Attribute (.Attribute (.Name x px') "past" ap) "pop" apos) [] [] cp) (some (.Attribute (.Name x px) "now" tp)) pos.line X.env = pure false := by rfl) :
    PS X (.Assign [.Attribute (.Name x px) "now" tp] (.Call (.Attribute (.Attribute (.Name x px') "past" ap) "pop" apos) [] [] cp) pos) (tS ⟨X.K, CK X.K⟩ (popM i) E) :=
  (ps_fld ho (pe_bm0 PySem.F.plainAttrs_list PySem.F.slot_list_pop PySem.F.type_list_pop mt_pop (pe_fld ho' hb) hbase hline) hs).imp fun D σ H ⟨c, Γ, F, W, so, po⟩ => by
    unfold popM at po
    split at po
    · rename_i kk now past hg
      split at po
      · rename_i l hl
        obtain ⟨p, hσ, hA, h1, dx, q, vn, xs, h2, h3, n1, n2, n3, h4, h5, h6, h7, h8⟩ := so.sl i _ hg
        obtain ⟨pa, rfl⟩ := List.getLast?_eq_some_iff.mp hl
        rw [List.map_append] at h8
        obtain ⟨xs', v, rfl, h9, h10⟩ := DtAll.snoc h8
        rw [List.dropLast_concat] at po
        refine ⟨.ref p, hσ, p, CK X.K 9, dx, _, .ref q, rfl, h4, m.c, m.past, rfl, .inl ⟨rfl, _, SqL.of h7⟩, q, xs' ++ [v], v, rfl, rfl, h7, by simp, ?_⟩
        rw [List.dropLast_concat]
        have so1 := so.mutI (o' := .mrk now pa) hg hσ h3 (u := .lst xs') ⟨h1, dx, q, vn, xs', h2, h3, n1, n2, n3, by rw [upd_ne (Ne.symm n2)]; exact h4, by rw [upd_ne (Ne.symm n3)]; exact h5, h6, upd_same, h9⟩
        have hlt : i < Γ.length := (List.getElem?_eq_some_iff.mp hg).1
        have hg1 : (Γ.set i (.own kk (.mrk now pa)))[i]? = some (.own kk (.mrk now pa)) := by rw [List.getElem?_set_self hlt]
        have so2 := so1.mutI (o' := .mrk l pa) hg1 hσ h1 (u := .ins (CK X.K 9) dx [("now", v), ("past", .ref q)]) ⟨h1, dx, q, v, xs', h2, h3, n1, n2, n3, upd_same, by rw [upd_ne n1, upd_ne (Ne.symm n3)]; exact h5, h10, by rw [upd_ne n2]; exact upd_same, h9⟩
        rw [List.set_set] at so2
        exact ⟨.ref p, hσ, p, CK X.K 9, dx, [("now", vn), ("past", .ref q)], rfl, by rw [upd_ne (Ne.symm n2)]; exact h4, m.c, m.now, (by simp), po σ F W _ so2 (Same.refl F)⟩
      · exact po.elim
    · exact po.elim
end
/-! ### calls of methods -/
section
variable {X : Cx} {E : L2.St → XK} {kk n i : Nat} {f : Addr} {fd : FuncData} {ps : List Str} {x m : Str} {px pos apos : Pos} {e : Expr} {es : List Expr} {sp : Sp} {t : TA} {g : En → Rs R} {fs : M (List R)}
def tMethE (C : Addr) (m : Str) (sp : Sp) (E : L2.St → XK) (i : Nat) (t : TA) : TE := fun σ H Q => ∃ a dx fs, σ[i]? = some (some (V.ref a)) ∧ H a = some (.ins C dx fs) ∧ fs.lookup m = none ∧ t σ H fun vs H2 => sp (.ref a :: vs) H2 Q (E σ)
theorem pe_methE {pl : Sem Bool} {C : Addr} (ho : PE X (.Name x px) (tVar i)) (c : Cls X.K C) (hm : Meth X.K C m f) (Fn : FnOk X.prog X.w X.K X.mg X.base (L2.CX X.prog X.w) kk f fd ps sp) (hr : Room kk X.A) (hb : Binds X.K fd ps []) (hx : ∀ σ, PassesAt (L2.CX X.prog X.w) X σ (E σ)) (ha : PA X (e :: es) t)
    (hst : starEach (e :: es) X.env = (false, eval e X.env) :: starEach es X.env := by rfl) (hpl : (backTo pos (starEach es X.env)).any (·.1) = false := by rfl)
    (ht : eval (.Call (.Attribute (.Name x px) m apos) (e :: es) [] pos) X.env = (do
      let ov ← eval (.Name x px) X.env
      standAt apos.atName
      let (f, first) ← holding [ov] (getMethod ov m pl)
      callWith pos f first (backTo pos (starEach (e :: es) X.env)) (backToKw pos (keywordEach [] X.env))) := by rfl) :
    PE X (.Call (.Attribute (.Name x px) m apos) (e :: es) [] pos) (tMethE C m sp E i t) := by
  refine ⟨fun pins s σ H Q I ⟨a, dx, fs, hσ, ea, l, q⟩ => ?_⟩
  refine PySem.W.methodCall_KW (pl := pl) (thn (ho.run pins s σ H (fun v H1 => v = .ref a ∧ H1 = H) I ⟨.ref a, hσ, rfl, rfl⟩) fun u s1 ⟨y, H1, I1, ry, ey, eH⟩ => ?_) ht
  subst ey eH
  obtain rfl : u = Value.ref a := ry
  refine getmeth_ok I1 ea c hm l ?_
  refine PySem.W.callWith_K (first := [.ref a]) (h₀ := X.base) I.ok.mod.kin hm.kp (thn (ha.run pos pins s1 σ H1 _ I1 q) fun us s2 ⟨vs, H2, I2, r, q2⟩ => ⟨I2.kIn, ?_⟩) hst hpl
  exact run_fnS (us := .ref a :: us) (vs := .ref a :: vs) Fn hr hb (hx σ) I2 (.cons rfl r) q2
theorem pe_methE0 {pl : Sem Bool} {C : Addr} (ho : PE X (.Name x px) (tVar i)) (c : Cls X.K C) (hm : Meth X.K C m f) (Fn : FnOk X.prog X.w X.K X.mg X.base (L2.CX X.prog X.w) kk f fd ps sp) (hr : Room kk X.A) (hb : Binds X.K fd ps []) (hx : ∀ σ, PassesAt (L2.CX X.prog X.w) X σ (E σ))
    (ht : eval (.Call (.Attribute (.Name x px) m apos) [] [] pos) X.env = (do
      let ov ← eval (.Name x px) X.env
      standAt apos.atName
      let (f, first) ← holding [ov] (getMethod ov m pl)
      callWith pos f first (backTo pos (starEach [] X.env)) (backToKw pos (keywordEach [] X.env))) := by rfl) :
    PE X (.Call (.Attribute (.Name x px) m apos) [] [] pos) (tMethE C m sp E i tNil) := by
  refine ⟨fun pins s σ H Q I ⟨a, dx, fs, hσ, ea, l, q⟩ => ?_⟩
  refine PySem.W.methodCall_KW (pl := pl) (thn (ho.run pins s σ H (fun v H1 => v = .ref a ∧ H1 = H) I ⟨.ref a, hσ, rfl, rfl⟩) fun u s1 ⟨y, H1, I1, ry, ey, eH⟩ => ?_) ht
  subst ey eH
  obtain rfl : u = Value.ref a := ry
  refine getmeth_ok I1 ea c hm l ?_
  exact PySem.W.callWith_K0 (first := [.ref a]) I1.kIn hm.kp (run_fnS (us := [.ref a]) (vs := [.ref a]) Fn hr hb (hx σ) I1 (.cons rfl .nil) q)
def argsIO (n : Nat) (g : En → Rs R) (rs : List R) : M R := fun Γ => match argIO Γ 0 rs with
  | some (Γ0, j, i) => if rs.length = n then retIO (g Γ0) Γ j i else .bad
  | none => .bad
/-- x.m(..): x's slot holds the object -/
def methM (i n : Nat) (g : En → Rs R) (fs : M (List R)) : M R := fun Γ => match Γ[i]? with
  | some (.own _ (.mrk _ _)) => (fs.bnd fun rs => argsIO n g (.bor i :: rs)) Γ
  | _ => .bad
theorem methM_ok (hl : ∀ v w : V, ([("now", v), ("past", w)] : List (Str × V)).lookup m = none) {K : PySem.W.Frag} : ∀ σ H Q, tE ⟨K, CK K⟩ (methM i n g fs) E σ H Q → tMethE (CK K 9) m (spF ⟨K, CK K⟩ n g) E i (tA ⟨K, CK K⟩ fs E) σ H Q := fun σ H Q ⟨c, Γ, F, W, so, po⟩ => by
  unfold methM at po
  split at po
  · rename_i kk now past hg
    obtain ⟨p, hσ, _, h1, dx, q, vn, xs, h2, h3, n1, n2, n3, h4, h5, h6, h7, h8⟩ := so.sl i _ hg
    refine ⟨p, dx, _, hσ, h4, hl _ _, c, Γ, F, W, so, Post.seq po fun rs Γ1 vs F1 W1 H1 so1 sm1 r1 po1 => ?_⟩
    unfold argsIO at po1
    split at po1
    · rename_i Γ0 j i' hi
      split at po1
      · rename_i hn
        exact callIO_sp hn so1 (.cons hσ r1) hi po1
      · exact po1.elim
    · exact po1.elim
  · exact po.elim
/-- a method of the class -/
def FokM (P : Program) (w : World) (K : PySem.W.Frag) (mg : Str → Option Value) (base : Heap) (lv : Nat) (m : Str) (ps : List Str) (g : En → Rs R) : Prop :=
  ∃ fd, FnOk P w K mg base (L2.CX P w) lv (He.ma K (CK K 9) m) fd ps (spF ⟨K, CK K⟩ ps.length g) ∧ Binds K fd ps [] ∧ Meth K (CK K 9) m (He.ma K (CK K 9) m)
theorem smeth {lv j : Nat} (Fn : FokM X.prog X.w X.K X.mg X.base lv m ps g) (mk : MkF X.K) (hr : Room j X.A) (hj : lv ≤ j) (hn : ps.length = n) (ho : PE X (.Name x px) (tVar i)) (hx : ∀ σ, PassesAt (L2.CX X.prog X.w) X σ (E σ)) (ha : PA X (e :: es) (tA ⟨X.K, CK X.K⟩ fs E)) {pl : Sem Bool}
    (hl : ∀ v w : V, ([("now", v), ("past", w)] : List (Str × V)).lookup m = none := by intro _ _; rfl)
    (hst : starEach (e :: es) X.env = (false, eval e X.env) :: starEach es X.env := by rfl) (hpl : (backTo pos (starEach es X.env)).any (·.1) = false := by rfl)
    (ht : eval (.Call (.Attribute (.Name x px) m apos) (e :: es) [] pos) X.env = (do
      let ov ← eval (.Name x px) X.env
      standAt apos.atName
      let (f, first) ← holding [ov] (getMethod ov m pl)
      callWith pos f first (backTo pos (starEach (e :: es) X.env)) (backToKw pos (keywordEach [] X.env))) := by rfl) :
    PE X (.Call (.Attribute (.Name x px) m apos) (e :: es) [] pos) (tE ⟨X.K, CK X.K⟩ (methM i n g fs) E) := by
  subst hn
  obtain ⟨fd, h1, h2, h3⟩ := Fn
  exact (pe_methE (pl := pl) ho mk.c h3 h1 (hr.mono hj) h2 hx ha hst hpl ht).imp (methM_ok hl)
theorem smeth0 {lv j : Nat} (Fn : FokM X.prog X.w X.K X.mg X.base lv m ps g) (mk : MkF X.K) (hr : Room j X.A) (hj : lv ≤ j) (hn : ps.length = n) (ho : PE X (.Name x px) (tVar i)) (hx : ∀ σ, PassesAt (L2.CX X.prog X.w) X σ (E σ)) {pl : Sem Bool}
    (hl : ∀ v w : V, ([("now", v), ("past", w)] : List (Str × V)).lookup m = none := by intro _ _; rfl)
    (ht : eval (.Call (.Attribute (.Name x px) m apos) [] [] pos) X.env = (do
      let ov ← eval (.Name x px) X.env
      standAt apos.atName
      let (f, first) ← holding [ov] (getMethod ov m pl)
      callWith pos f first (backTo pos (starEach [] X.env)) (backToKw pos (keywordEach [] X.env))) := by rfl) :
    PE X (.Call (.Attribute (.Name x px) m apos) [] [] pos) (tE ⟨X.K, CK X.K⟩ (methM i n g aNil) E) := by
  subst hn
  obtain ⟨fd, h1, h2, h3⟩ := Fn
  refine (pe_methE0 (pl := pl) ho mk.c h3 h1 (hr.mono hj) h2 hx ht).imp fun σ H Q h => ?_
  obtain ⟨a, dx, fs, q1, q2, q3, c, Γ, F, W, so, po⟩ := methM_ok hl σ H Q h
  exact ⟨a, dx, fs, q1, q2, q3, po [] F W H so (Same.refl F) .nil⟩
end
/-! ### methods of the text -/
section
variable {P : Program} {w : World} {K : PySem.W.Frag} {mg : Str → Option Value} {base : Heap}
theorem fokPm {m q : Str} {st : Stmt} {ps N : List Str} {lv n : Nat} {f : M Fl} (F : ∃ fd, FunD K m q (defArgs st) (defBody st) (defScope st) [] [] (He.ma K (CK K 9) m) fd) (hm : Meth K (CK K 9) m (He.ma K (CK K 9) m)) (S : FnScope N ps (defScope st)) (hN : N.length = ps.length + n)
    (hb : ∀ (kV doc pm : Value) (an : Option Addr) (cdv ct : Value) (us : List Value), us.length = ps.length → bindArgs (PySem.W.fnOf m q (defArgs st) (defBody st) (defScope st) .none kV doc pm an cdv ct) ⟨us, []⟩ = pure (ps.zip us))
    (hbody : ∀ (cdv : Value) (A : Around) (outer : List Env) (s : Shared) (H : Hp) (E : XK), Room lv (A.deeper (envOfC q (defScope st) s.heap.objs.size (He.ma K (CK K 9) m) cdv)) →
      PSs (cxOf (L2.CX P w) P w K mg base N q (defScope st) (He.ma K (CK K 9) m) cdv A outer s H E).nox (defBody st) (tS ⟨K, CK K⟩ f E0')) : FokM P w K mg base (lv + 1) m ps (fnP f n) := by
  obtain ⟨fd, F⟩ := F
  refine ⟨fd, F.ok S spF_len fun cdv A outer s H vs Q E hr h => ⟨_, (hbody cdv A outer s H E hr).nox, bodyP_ok hN h⟩, F.bindsN hb, hm⟩
theorem fokXm {m q : Str} {st : Stmt} {ps N : List Str} {lv n : Nat} {f : M Fl} (F : ∃ fd, FunD K m q (defArgs st) (defBody st) (defScope st) [] [] (He.ma K (CK K 9) m) fd) (hm : Meth K (CK K 9) m (He.ma K (CK K 9) m)) (S : FnScope N ps (defScope st)) (hN : N.length = ps.length + n)
    (hb : ∀ (kV doc pm : Value) (an : Option Addr) (cdv ct : Value) (us : List Value), us.length = ps.length → bindArgs (PySem.W.fnOf m q (defArgs st) (defBody st) (defScope st) .none kV doc pm an cdv ct) ⟨us, []⟩ = pure (ps.zip us))
    (hbody : ∀ (cdv : Value) (A : Around) (outer : List Env) (s : Shared) (H : Hp) (E : XK), Room lv (A.deeper (envOfC q (defScope st) s.heap.objs.size (He.ma K (CK K 9) m) cdv)) →
      Takes (cxOf (L2.CX P w) P w K mg base N q (defScope st) (He.ma K (CK K 9) m) cdv A outer s H E) (fun cls d _ H' => E cls d H') →
      PassesOwn (model P w) (cxOf (L2.CX P w) P w K mg base N q (defScope st) (He.ma K (CK K 9) m) cdv A outer s H E).A (cxOf (L2.CX P w) P w K mg base N q (defScope st) (He.ma K (CK K 9) m) cdv A outer s H E).env (cxOf (L2.CX P w) P w K mg base N q (defScope st) (He.ma K (CK K 9) m) cdv A outer s H E).xe →
      PSs (cxOf (L2.CX P w) P w K mg base N q (defScope st) (He.ma K (CK K 9) m) cdv A outer s H E) (defBody st) (tS ⟨K, CK K⟩ f (fun _ => E))) : FokM P w K mg base (lv + 1) m ps (fnX f n) := by
  obtain ⟨fd, F⟩ := F
  refine ⟨fd, F.ok S spF_len fun cdv A outer s H vs Q E hr h => ⟨_, hbody cdv A outer s H E hr (takes_of rfl rfl rfl rfl) (passes_of rfl), body_ok hN h⟩, F.bindsN hb, hm⟩
/-! ### Marker() -/
def spI (K : PySem.W.Frag) : Sp := fun vs H Q _ => ∃ x dx, vs = [V.ref x] ∧ H x = some (.ins (CK K 9) dx []) ∧ H dx = some (.own x) ∧ ∀ p q, H p = none → H q = none → p ≠ q →
  Q .non (upd (upd (upd (upd H p (.lst [])) x (.ins (CK K 9) dx [("now", .ref p)])) q (.lst [])) x (.ins (CK K 9) dx [("now", .ref p), ("past", .ref q)]))
def InitOk (P : Program) (w : World) (K : PySem.W.Frag) (mg : Str → Option Value) (base : Heap) : Prop := ∃ fd, FnOk P w K mg base (L2.CX P w) 1 (He.ma K (CK K 9) "__init__") fd ["self"] (spI K) ∧ Binds K fd ["self"] [] ∧ Mk K (CK K 9) (He.ma K (CK K 9) "__init__")
theorem init_ok {st : Stmt} {a1 a2 a3 a4 b1 b2 b3 b4 : Pos} (F : ∃ fd, FunD K "__init__" "Marker.__init__" (defArgs st) (defBody st) (defScope st) [] [] (He.ma K (CK K 9) "__init__") fd) (mk : MkF K) (hM : Mk K (CK K 9) (He.ma K (CK K 9) "__init__")) (S : FnScope ["self"] ["self"] (defScope st))
    (hb : ∀ (kV doc pm : Value) (an : Option Addr) (cdv ct : Value) (us : List Value), us.length = 1 → bindArgs (PySem.W.fnOf "__init__" "Marker.__init__" (defArgs st) (defBody st) (defScope st) .none kV doc pm an cdv ct) ⟨us, []⟩ = pure ((["self"] : List Str).zip us))
    (hbody : defBody st = [.Assign [.Attribute (.Name "self" a1) "now" a2] (.List [] a3) a4, .Assign [.Attribute (.Name "self" b1) "past" b2] (.List [] b3) b4]) (hv : ∀ (sz : Nat) (f : Addr) (cdv : Value), Vis (envOfC "Marker.__init__" (defScope st) sz f cdv).scope "self")
    (hs1 : ∀ env : Env, swapsWith (.List [] a3) (some (.Attribute (.Name "self" a1) "now" a2)) a4.line env = pure false := by intro _; rfl) (hs2 : ∀ env : Env, swapsWith (.List [] b3) (some (.Attribute (.Name "self" b1) "past" b2)) b4.line env = pure false := by intro _; rfl) : InitOk P w K mg base := by
  obtain ⟨fd, F⟩ := F
  refine ⟨fd, F.ok S (fun vs H Q E ⟨x, dx, e, _⟩ => by rw [e]; rfl) fun cdv A outer s H vs Q E hr h => ?_, F.bindsN hb, hM⟩
  rw [hbody]
  refine ⟨_, pss_cons (ps_fld (pe_var (i := 0) rfl (hv _ _ _)) (pe_lst pa_nil) (hs1 _)) (pss_cons (ps_fld (pe_var (i := 0) rfl (hv _ _ _)) (pe_lst pa_nil) (hs2 _)) pss_nil), ?_⟩
  obtain ⟨x, dx, rfl, h1, h2, q⟩ := h
  refine ⟨Nat.zero_le _, fun p hp => ⟨.ref x, rfl, x, CK K 9, dx, [], rfl, ?_, mk.c, mk.now, (by decide), Nat.zero_le _, fun r hr => ⟨.ref x, rfl, x, CK K 9, dx, [("now", .ref p)], rfl, ?_, mk.c, mk.past, (by simp), ?_⟩⟩⟩
  · rw [upd_ne (fun z => by rw [z, hp] at h1; cases h1)]; exact h1
  · rw [upd_ne (fun z => by rw [← z, upd_same] at hr; cases hr)]; exact upd_same
  · have hrx : r ≠ x := fun z => by rw [z, upd_same] at hr; cases hr
    rw [upd_ne hrx] at hr
    have hrp : r ≠ p := fun z => by rw [z, upd_same] at hr; cases hr
    rw [upd_ne hrp] at hr
    exact q p r hp hr (Ne.symm hrp)
end
def newMk : M R := M.ret (.own (.mrk [] []))
section
variable {X : Cx} {E : L2.St → XK} {x : Str} {p pos : Pos}
theorem se_newMk {j : Nat} (I0 : InitOk X.prog X.w X.K X.mg X.base) (hr : Room j X.A) (hj : 2 ≤ j) (hg : Gl X "Marker") (hm : X.mg "Marker" = some (.ref (CK X.K 9))) : PE X (.Call (.Name "Marker" p) [] [] pos) (tE ⟨X.K, CK X.K⟩ newMk E) := by
  obtain ⟨fd, h1, h2, h3⟩ := I0
  refine (pe_make0 (E := E0) h3 h1 (hr.mono hj) hg hm h2 .nil passL).imp fun σ H Q ⟨c, Γ, F, W, so, po⟩ => fun x dx hx hdx hne => ⟨x, dx, rfl, upd_same, ?_, fun p q hp hq hpq => ⟨rfl, ?_⟩⟩
  · rw [upd_ne hne]; exact upd_same
  · have px : p ≠ x := fun z => by rw [z, upd_same] at hp; cases hp
    rw [upd_ne px] at hp
    have pd : p ≠ dx := fun z => by rw [z, upd_same] at hp; cases hp
    rw [upd_ne pd] at hp
    have qx : q ≠ x := fun z => by rw [z, upd_same] at hq; cases hq
    rw [upd_ne qx] at hq
    have qd : q ≠ dx := fun z => by rw [z, upd_same] at hq; cases hq
    rw [upd_ne qd] at hq
    -- the frozen list, the three parts
    have so1 := so.newT (o := HO.own x) hdx
    have hx1 : upd H dx (.own x) x = none := by rw [upd_ne (Ne.symm hne)]; exact hx
    have so2 := so1.newT (o := HO.ins (CK X.K 9) dx [("now", .ref p), ("past", .ref q)]) hx1
    have hq2 : upd (upd H dx (.own x)) x (.ins (CK X.K 9) dx [("now", .ref p), ("past", .ref q)]) q = none := by rw [upd_ne qx, upd_ne qd]; exact hq
    have so3 := so2.newT (o := HO.lst []) hq2
    have hp3 : upd (upd (upd H dx (.own x)) x (.ins (CK X.K 9) dx [("now", .ref p), ("past", .ref q)])) q (.lst []) p = none := by rw [upd_ne hpq, upd_ne px, upd_ne pd]; exact hp
    obtain ⟨so4, sm4, fp⟩ := so3.newF (o := HO.lst []) hp3
    have eH : upd (upd (upd (upd (upd (upd H dx (.own x)) x (.ins (CK X.K 9) dx [])) p (.lst [])) x (.ins (CK X.K 9) dx [("now", .ref p)])) q (.lst [])) x (.ins (CK X.K 9) dx [("now", .ref p), ("past", .ref q)]) =
        upd (upd (upd (upd H dx (.own x)) x (.ins (CK X.K 9) dx [("now", .ref p), ("past", .ref q)])) q (.lst [])) p (.lst []) := by
      funext a
      by_cases e1 : a = x
      · subst e1
        rw [upd_same, upd_ne (Ne.symm px), upd_ne (Ne.symm qx), upd_same]
      · rw [upd_ne e1]
        by_cases e2 : a = q
        · subst e2
          rw [upd_same, upd_ne (Ne.symm hpq), upd_same]
        · rw [upd_ne e2, upd_ne e1]
          by_cases e3 : a = p
          · subst e3
            rw [upd_same, upd_same]
          · rw [upd_ne e3, upd_ne e1, upd_ne e3, upd_ne e2, upd_ne e1]
    rw [eH]
    refine po (.ref x) _ _ _ so4 sm4 ⟨x, rfl, ?_, dx, q, .ref p, [], ?_, ?_, hne, qx, qd, ?_, ?_, .lst fp .nil, ?_, .nil⟩
    · show updW (updW (updW W dx (some Ow.tmp)) x (some Ow.tmp)) q (some Ow.tmp) x = some Ow.tmp
      rw [updW_ne (Ne.symm qx)]; exact updW_same
    · show updW (updW (updW W dx (some Ow.tmp)) x (some Ow.tmp)) q (some Ow.tmp) dx = some Ow.tmp
      rw [updW_ne (Ne.symm qd), updW_ne hne]; exact updW_same
    · exact updW_same
    · rw [upd_ne (Ne.symm px), upd_ne (Ne.symm qx)]; exact upd_same
    · rw [upd_ne (Ne.symm pd), upd_ne (Ne.symm qd), upd_ne hne]; exact upd_same
    · rw [upd_ne (Ne.symm hpq)]; exact upd_same
end
/-! ### len(x), x a Marker -/
section
variable {X : Cx} {E : L2.St → XK} {kk i : Nat} {f : Addr} {fd : FuncData} {ps : List Str} {x : Str} {px p pos : Pos} {sp : Sp} {g : En → Rs R}
theorem pe_lenE {C : Addr} (hg : Gl X "len") (hm : X.mg "len" = none) (ho : PE X (.Name x px) (tVar i)) (hM : Meth X.K C "__len__" f) (Fn : FnOk X.prog X.w X.K X.mg X.base (L2.CX X.prog X.w) kk f fd ps sp) (hr : Room (kk + 1) X.A) (hb : Binds X.K fd ps []) (hx : ∀ σ, PassesAt (L2.CX X.prog X.w) X σ (E σ))
    (na : starEach [.Name x px] X.env = (false, eval (.Name x px) X.env) :: starEach [] X.env := by rfl) :
    PE X (.Call (.Name "len" p) [.Name x px] [] pos) (fun σ H Q => ∃ a dx fs, σ[i]? = some (some (V.ref a)) ∧ H a = some (.ins C dx fs) ∧ sp [.ref a] H (fun v H2 => ∃ n : Int, v = .int n ∧ 0 ≤ n ∧ n < 1000000 ∧ Q (.int n) H2) (E σ)) := by
  refine ⟨fun pins s σ H Q I ⟨a, dx, fs, hσ, ea, q⟩ => ?_⟩
  refine Call_ (ld_blt I hg hm boot_len ?_)
  refine PyProof.Rows.callWith_builtin1 (PyProof.Rows.args_cons (thn (ho.run pins s σ H (fun v H1 => v = .ref a ∧ H1 = H) I ⟨.ref a, hσ, rfl, rfl⟩) fun u s1 ⟨y, H1, I1, ry, ey, eH⟩ => PyProof.Rows.args_nil ?_) na) na rfl
  subst ey eH
  obtain rfl : u = Value.ref a := ry
  obtain ⟨mA, J, _⟩ := ins_get I1.hok ea
  obtain ⟨od, J, _⟩ := J.look
  refine Calls.call_function_entry kind_len plain_len entry_len (args_len1 _) ?_
  unfold Builtin.«len»
  refine wpAny_bind (m := oneArg "len" _) (wpAny_pure ?_)
  have e0 : Env0 X.prog X.w X.K X.mg X.base X.A.in1 X.stack s1 H1 := by
    have e := I1.env0
    exact ⟨e.frames, e.mod, e.bs, e.bsz, e.funs, e.frf, e.hok, e.bare⟩
  have hl := Fn.len _ _ _ _ q
  refine wpAny_bind (m := callSpecial? (.ref a) (Str.ofString "__len__")) (PySem.W.special_fn I1.kIn J hM.at_ (beq_iff_eq.mp hM.fn) (wpAny_call (codeAny_mono (Fn.run X.A.in1 X.stack s1 H1 ⟨[.ref a], []⟩ [.ref a] [.ref a] _ (E σ) hr.in1 e0 (by
    have := hb s1 [.ref a] I1.kIn (by simpa using hl)
    simpa using this) (.cons rfl .nil) q) fun r s' hq => ?_)))
  cases r with
  | error e => exact hx σ pins H1 s1 e s' I1 hq
  | ok fl =>
    cases fl with
    | next => exact False.elim hq
    | brk => exact False.elim hq
    | cont => exact False.elim hq
    | ret u =>
      obtain ⟨v, H2, I2, rv, n, rfl, h0, h1, hQ⟩ := I1.after hq
      obtain ⟨t, rfl⟩ := (show ∃ t, u = Value.int n t from rv)
      show wpAny _ _ _ _ _ _
      refine wpAny_bind (wpAny_holding (wpAny_pure ?_))
      refine wpAny_bind (wpAny_letGo ?_)
      show wpAny _ _ (if n < 0 then _ else _) _ _ _
      rw [if_neg (by omega)]
      show wpAny _ _ (if n ≥ 2 ^ 63 then _ else _) _ _ _
      rw [if_neg (by omega)]
      exact wpAny_bind (wpAny_mkInt (wpAny_pure ⟨_, rfl, .int n, H2, I2.tok _, ⟨_, rfl⟩, hQ⟩))
/-- len(x) -/
def lenMk (i : Nat) (g : En → Rs R) : M R := (methM i 1 g aNil).bnd fun r Γ => match r with
  | .val (.int n) => if 0 ≤ n ∧ n < 1000000 then .ok (.val (.int n)) Γ else .bad
  | _ => .bad
theorem se_lenMk {lv j : Nat} (Fn : FokM X.prog X.w X.K X.mg X.base lv "__len__" ["self"] g) (hr : Room j X.A) (hj : lv + 1 ≤ j) (hg : Gl X "len") (hm : X.mg "len" = none) (ho : PE X (.Name x px) (tVar i)) (hx : ∀ σ, PassesAt (L2.CX X.prog X.w) X σ (E σ))
    (na : starEach [.Name x px] X.env = (false, eval (.Name x px) X.env) :: starEach [] X.env := by rfl) : PE X (.Call (.Name "len" p) [.Name x px] [] pos) (tE ⟨X.K, CK X.K⟩ (lenMk i g) E) := by
  obtain ⟨fd, h1, h2, h3⟩ := Fn
  refine (pe_lenE hg hm ho h3 h1 (hr.mono hj) h2 hx na).imp fun σ H Q ⟨c, Γ, F, W, so, po⟩ => ?_
  have po' : Post ⟨X.K, CK X.K⟩ c σ F E (ROk ⟨X.K, CK X.K⟩) (methM i 1 g aNil Γ) (fun v H2 => ∃ n : Int, v = .int n ∧ 0 ≤ n ∧ n < 1000000 ∧ Q (.int n) H2) := Post.seq po fun r Γ1 v F1 W1 H1 so1 sm1 r1 po1 => by
    split at po1
    · rename_i n
      split at po1
      · rename_i hn
        cases r1
        exact ⟨n, rfl, hn.1, hn.2, po1 _ F1 W1 H1 so1 (Same.refl F1) (.int n)⟩
      · exact po1.elim
    · exact po1.elim
  obtain ⟨a, dx, fs, q1, q2, q3, c', Γ', F', W', so', po''⟩ := methM_ok (m := "__len__") (fun _ _ => rfl) σ H _ ⟨c, Γ, F, W, so, po'⟩
  exact ⟨a, dx, fs, q1, q2, po'' [] F' W' H so' (Same.refl F') .nil⟩
end
end Rt
namespace Rt
open PySem PySem.Spec PyProof.Rows L2
/-! ### texts over the signs 0..9 - / , and blank -/
def Al : List Nat := [48, 49, 50, 51, 52, 53, 54, 55, 56, 57, 45, 47, 44, 32]
def Ov (z : Str) : Prop := ∀ c ∈ TL.tl z, c ∈ Al
def chO (d1 d2 : D → D → Option R) (fc : M R) (rb : R) (Γ : En) : Option R → Rs R
  | some (.val (.bool true)) => (fc Γ).and fun rc Γ => op2 d2 rb rc Γ
  | some (.val (.bool false)) => .ok (.val (.bool false)) Γ
  | _ => .bad
@[simp] theorem chO_t {d1 d2 : D → D → Option R} {fc : M R} {rb : R} {Γ : En} : chO d1 d2 fc rb Γ (some (.val (.bool true))) = (fc Γ).and fun rc Γ => op2 d2 rb rc Γ := (rfl)
@[simp] theorem chO_f {d1 d2 : D → D → Option R} {fc : M R} {rb : R} {Γ : En} : chO d1 d2 fc rb Γ (some (.val (.bool false))) = .ok (.val (.bool false)) Γ := (rfl)
theorem ap_chn {d1 d2 : D → D → Option R} {fa fb fc : M R} {Γ Γ1 Γ2 : En} {ra rb ra' rb' : R} {x y : D} (h1 : fa Γ = .ok ra Γ1) (h2 : hold ra Γ1 = .ok ra' Γ1) (h3 : fb Γ1 = .ok rb Γ2) (h4 : hold rb Γ2 = .ok rb' Γ2) (h5 : rdD Γ2 ra' = some x) (h6 : rdD Γ2 rb' = some y) :
    chn d1 d2 fa fb fc Γ = chO d1 d2 fc rb' Γ2 (d1 x y) := by
  unfold chn
  rw [bnd_ok h1, bnd_ok h2, bnd_ok h3, bnd_ok h4]
  simp only [h5, h6]
  cases d1 x y with
  | none => rfl
  | some r =>
    cases r with
    | val d =>
      cases d with
      | bool b => cases b <;> rfl
      | _ => rfl
    | _ => rfl
def numT (z : Str) : Int := match g_number_in [.val (.str z)] with
  | .ok (.val (.int n)) _ => n
  | _ => -1
def two : List Str := (Al.map fun c => (⟨#[c]⟩ : Str)) ++ Al.flatMap fun c => Al.map fun d => (⟨#[c, d]⟩ : Str)
theorem F_number_in : ∀ z ∈ two, vOf (g_number_in [.val (.str z)]) = some (.val (.int (numT z))) := all_of (by kernel_rfl)
theorem F_numT : (two.all fun z => decide (0 ≤ numT z) && decide (numT z ≤ 10)) = true := by decide +kernel
theorem number_in_far {z : Str} (hl : z.length ≤ 1000000) (h : z.length = 0 ∨ 3 ≤ z.length) : vOf (g_number_in [.val (.str z)]) = some (.val (.int 0)) := by
  refine vOf_ok (Γ := [.val (.str z), .un]) ?_ (fun _ => nofun)
  have hd : dLen [.str z] = some (.val (.int z.length)) := by
    simp only [dLen]; rw [if_pos hl]
  have hc := ap_chn (d1 := dLe) (d2 := dLe) (fa := eC (.int 1)) (fb := callD dLen (aLast (eVar 0))) (fc := eC (.int 2)) (Γ := [.val (.str z), .un]) (Γ1 := [.val (.str z), .un]) (Γ2 := [.val (.str z), .un]) (ra := .val (.int 1)) (ra' := .val (.int 1)) (rb := .val (.int z.length)) (rb' := .val (.int z.length)) rfl rfl (by simp [hd]) rfl rfl rfl
  unfold g_number_in m_number_in
  rcases h with h | h
  · simp [ap_fnP, ap_fnX, hc, h]
  · have h1 : (1 : Int) ≤ z.length := by omega
    have h2 : ¬ (z.length : Int) ≤ 2 := by omega
    simp [ap_fnP, ap_fnX, hc, h1, h2]
/-- the number of any such word -/
theorem number_in_ok {z : Str} (hl : z.length ≤ 1000000) (ho : Ov z) : ∃ n : Int, 0 ≤ n ∧ n ≤ 10 ∧ vOf (g_number_in [.val (.str z)]) = some (.val (.int n)) := by
  by_cases h : z.length = 0 ∨ 3 ≤ z.length
  · exact ⟨0, by decide, by decide, number_in_far hl h⟩
  · have hz : z ∈ two := by
      have e := TL.len_tl z
      have hm := TL.mk_tl z
      unfold Ov at ho
      unfold two
      generalize TL.tl z = l at *
      rw [← hm]
      match l, ho, e, hm with
      | [], _, e, _ => exact absurd (.inl e) h
      | [c], ho, _, _ => exact List.mem_append_left _ (List.mem_map.mpr ⟨c, ho c (by simp), rfl⟩)
      | [c, d], ho, _, _ => exact List.mem_append_right _ (List.mem_flatMap.mpr ⟨c, ho c (by simp), List.mem_map.mpr ⟨d, ho d (by simp), rfl⟩⟩)
      | _ :: _ :: _ :: _, _, e, _ => exact absurd (.inr (by rw [e]; simp)) h
    have := List.all_eq_true.mp F_numT z hz
    simp only [Bool.and_eq_true, decide_eq_true_eq] at this
    exact ⟨numT z, this.1, this.2, F_number_in z hz⟩
/-! cut at a sign -/
theorem par_mem (S : List Nat) : ∀ (l acc a b : List Nat), TL.par S acc l = some (a, b) → (∀ c ∈ a, c ∈ acc ∨ c ∈ l) ∧ (∀ c ∈ b, c ∈ l) ∧ a.length ≤ acc.length + l.length ∧ b.length ≤ l.length
  | [], acc, a, b, h => by cases h
  | c :: r, acc, a, b, h => by
    unfold TL.par at h
    split at h
    · cases h
      refine ⟨fun c h => .inl h, fun c h => List.mem_of_mem_drop h, by omega, by simp⟩
    · obtain ⟨h1, h2, h3, h4⟩ := par_mem S r (acc ++ [c]) a b h
      refine ⟨fun x hx => ?_, fun x hx => List.mem_cons_of_mem _ (h2 x hx), by simp at h3 ⊢; omega, by simp; omega⟩
      rcases h1 x hx with h | h
      · rcases List.mem_append.mp h with h | h
        · exact .inl h
        · rw [List.mem_singleton.mp h]; exact .inr (by simp)
      · exact .inr (List.mem_cons_of_mem _ h)
theorem part_ok {z y : Str} {s : Nat} (hy : TL.tl y = [s]) (ho : Ov z) : ∃ a m b : Str, Txt.partition z y = (a, m, b) ∧ Ov a ∧ Ov b ∧ (m = y ∨ (m = Str.empty ∧ a = z ∧ b = Str.empty)) ∧ a.length ≤ z.length ∧ b.length ≤ z.length := by
  rw [TL.partition_par z y (by rw [hy]; simp)]
  cases h : TL.par (TL.tl y) [] (TL.tl z) with
  | none => exact ⟨z, Str.empty, Str.empty, rfl, ho, (fun c hc => (by cases hc)), .inr ⟨rfl, rfl, rfl⟩, Nat.le_refl _, Nat.zero_le _⟩
  | some p =>
    obtain ⟨a, b⟩ := p
    obtain ⟨h1, h2, h3, h4⟩ := par_mem _ _ _ _ _ h
    refine ⟨⟨a.toArray⟩, y, ⟨b.toArray⟩, rfl, fun c hc => ?_, fun c hc => ho c (h2 c hc), .inl rfl, ?_, ?_⟩
    · rcases h1 c hc with h | h
      · cases h
      · exact ho c h
    · rw [TL.len_tl, TL.len_tl]; simpa using h3
    · rw [TL.len_tl, TL.len_tl]; simpa using h4
/-! ### item_in of any such text -/
def nums11 : List Int := [0, 1, 2, 3, 4, 5, 6, 7, 8, 9, 10]
def trip : List Itm := nums11.flatMap fun a => nums11.flatMap fun b => nums11.map fun c => (a, b, c)
theorem F_is_item : ∀ i ∈ trip, vOf (g_is_item [.val (iD i)]) = some (.val (.bool (items110.contains i))) := all_of (by kernel_rfl)
theorem mem11 {n : Int} (h0 : 0 ≤ n) (h1 : n ≤ 10) : n ∈ nums11 := by
  unfold nums11
  simp
  omega
theorem mem_trip {a b c : Int} (ha : a ∈ nums11) (hb : b ∈ nums11) (hc : c ∈ nums11) : (a, b, c) ∈ trip :=
  List.mem_flatMap.mpr ⟨a, ha, List.mem_flatMap.mpr ⟨b, hb, List.mem_map.mpr ⟨c, hc, rfl⟩⟩⟩
end Rt
namespace Rt
open PySem PySem.Spec PyProof.Rows L2
/-- the end of item_in -/
theorem item_end {z : Str} {i : Itm} (hi : i ∈ trip) {Γ : En} (hz : Γ[0]? = some (.val (.str z))) (h8 : Γ[8]? = some (.val (iD i))) :
    (∃ Γ', sSeq (sIf (mOr (mNot (tst (callV 1 g_is_item (aLast (sto (eVar 8)))))) (tst (bin dNe (callV 1 g_text_of (aLast (sto (eVar 8)))) (eVar 0)))) (sRet (eC .none)) (sNx)) (sRet (eVar 8)) Γ = .ok (.ret (.val .none)) Γ') ∨
    (i ∈ items110 ∧ wd i = z ∧ ∃ Γ', sSeq (sIf (mOr (mNot (tst (callV 1 g_is_item (aLast (sto (eVar 8)))))) (tst (bin dNe (callV 1 g_text_of (aLast (sto (eVar 8)))) (eVar 0)))) (sRet (eC .none)) (sNx)) (sRet (eVar 8)) Γ = .ok (.ret (.val (iD i))) Γ') := by
  have h1 := retV_of (F_is_item i hi)
  by_cases hc : i ∈ items110
  · have hc' : items110.contains i = true := List.contains_iff_mem.mpr hc
    rw [hc'] at h1
    have h2 := retV_of (F_text_of i hc)
    by_cases hw : wd i = z
    · right
      refine ⟨hc, hw, Γ, ?_⟩
      simp [h8, hz, h1, h2, hw]
    · left
      refine ⟨Γ, ?_⟩
      simp [h8, hz, h1, h2, hw]
  · left
    have hc' : items110.contains i = false := by
      rw [Bool.eq_false_iff]
      exact fun z => hc (List.contains_iff_mem.mp z)
    rw [hc'] at h1
    refine ⟨Γ, ?_⟩
    simp [h8, hz, h1]
theorem item_in_any {z : Str} (hl : z.length ≤ 1000000) (ho : Ov z) : vOf (g_item_in [.val (.str z)]) = some (.val .none) ∨ ∃ i ∈ items110, wd i = z ∧ vOf (g_item_in [.val (.str z)]) = some (.val (iD i)) := by
  obtain ⟨hd, sl, tl, e1, o1, o2, m1, l1, l2⟩ := part_ok (y := "/") (s := 47) rfl ho
  obtain ⟨fi, da, la, e2, o3, o4, m2, l3, l4⟩ := part_ok (y := "-") (s := 45) rfl o1
  obtain ⟨nt, t0, t1, ht⟩ := number_in_ok (z := tl) (by omega) o2
  obtain ⟨nf, f0, f1, hf⟩ := number_in_ok (z := fi) (by omega) o3
  obtain ⟨nl, g0, g1, hg⟩ := number_in_ok (z := la) (by omega) o4
  have ht := retV_of ht
  have hf := retV_of hf
  have hg := retV_of hg
  have p1 : dPart (.str z) (.str "/") = some (.val (.tuple [.str hd, .str sl, .str tl])) := by
    simp only [dPart]
    rw [if_pos ⟨by decide +kernel, hl⟩, e1]
  have p2 : dPart (.str hd) (.str "-") = some (.val (.tuple [.str fi, .str da, .str la])) := by
    simp only [dPart]
    rw [if_pos ⟨by decide +kernel, by omega⟩, e2]
  have hne1 : (Str.ofString "/" == Str.ofString "") = false := by decide +kernel
  have hne2 : (Str.ofString "-" == Str.ofString "") = false := by decide +kernel
  have hee : (Str.empty == Str.ofString "") = true := by decide +kernel
  have key : ∀ {i : Itm} {Γ : En}, i ∈ trip → Γ[0]? = some (.val (.str z)) → Γ[8]? = some (.val (iD i)) →
      finF (sSeq (sIf (mOr (mNot (tst (callV 1 g_is_item (aLast (sto (eVar 8)))))) (tst (bin dNe (callV 1 g_text_of (aLast (sto (eVar 8)))) (eVar 0)))) (sRet (eC .none)) (sNx)) (sRet (eVar 8)) Γ) = g_item_in [.val (.str z)] →
      vOf (g_item_in [.val (.str z)]) = some (.val .none) ∨ ∃ i ∈ items110, wd i = z ∧ vOf (g_item_in [.val (.str z)]) = some (.val (iD i)) := by
    intro i Γ hi h0 h8 e
    rcases item_end hi h0 h8 with ⟨Γ', q⟩ | ⟨h1, h2, Γ', q⟩
    · rw [q] at e
      exact .inl (vOf_ok (Γ := Γ') e.symm (fun _ => nofun))
    · rw [q] at e
      exact .inr ⟨i, h1, h2, vOf_ok (Γ := Γ') e.symm (fun _ => nofun)⟩
  rcases m1 with rfl | ⟨rfl, rfl, rfl⟩ <;> rcases m2 with rfl | ⟨rfl, rfl, rfl⟩
  · by_cases h2 : nt < 2
    · left
      refine vOf_ok (Γ := [.val (.str z), .val (.str hd), .val (.str "/"), .val (.str tl), .val (.str fi), .val (.str "-"), .val (.str la), .un, .un]) ?_ (fun _ => nofun)
      unfold g_item_in m_item_in
      simp [ap_fnP, ap_fnX, p1, p2, hne1, hne2, ht, h2]
    · refine key (i := (nf, nl, nt)) (Γ := [.val (.str z), .val (.str hd), .val (.str "/"), .val (.str tl), .val (.str fi), .val (.str "-"), .val (.str la), .val (.int nt), .val (iD (nf, nl, nt))]) (mem_trip (mem11 f0 f1) (mem11 g0 g1) (mem11 t0 t1)) rfl rfl ?_
      symm
      unfold g_item_in m_item_in
      simp [ap_fnP, ap_fnX, p1, p2, hne1, hne2, ht, hf, hg, h2, iD]
  · left
    refine vOf_ok (Γ := [.val (.str z), .val (.str fi), .val (.str "/"), .val (.str tl), .val (.str fi), .val (.str Str.empty), .val (.str Str.empty), .un, .un]) ?_ (fun _ => nofun)
    unfold g_item_in m_item_in
    simp [ap_fnP, ap_fnX, p1, p2, hne1, hee]
  · refine key (i := (nf, nl, 1)) (Γ := [.val (.str hd), .val (.str hd), .val (.str Str.empty), .val (.str Str.empty), .val (.str fi), .val (.str "-"), .val (.str la), .val (.int 1), .val (iD (nf, nl, 1))]) (mem_trip (mem11 f0 f1) (mem11 g0 g1) (mem11 (by decide) (by decide))) rfl rfl ?_
    symm
    unfold g_item_in m_item_in
    simp [ap_fnP, ap_fnX, p1, p2, hne2, hee, hf, hg, iD]
  · refine key (i := (nf, nf, 1)) (Γ := [.val (.str fi), .val (.str fi), .val (.str Str.empty), .val (.str Str.empty), .val (.str fi), .val (.str Str.empty), .val (.str Str.empty), .val (.int 1), .val (iD (nf, nf, 1))]) (mem_trip (mem11 f0 f1) (mem11 f0 f1) (mem11 (by decide) (by decide))) rfl rfl ?_
    symm
    unfold g_item_in m_item_in
    simp [ap_fnP, ap_fnX, p1, p2, hee, hf, iD]
/-- item_in, of any such text -/
def itemT (z : Str) : Option Itm := items110.find? fun i => decide (wd i = z)
theorem F_wd_inj : (items110.all fun i => items110.all fun j => decide (wd i = wd j → i = j)) = true := by decide +kernel
theorem wd_inj {i j : Itm} (hi : i ∈ items110) (hj : j ∈ items110) (h : wd i = wd j) : i = j := of_decide_eq_true (List.all_eq_true.mp (List.all_eq_true.mp F_wd_inj i hi) j hj) h
def oD : Option Itm → D
  | some i => iD i
  | none => .none
theorem item_in_ok {z : Str} (hl : z.length ≤ 1000000) (ho : Ov z) : vOf (g_item_in [.val (.str z)]) = some (.val (oD (itemT z))) := by
  cases h : itemT z with
  | some i =>
    have h1 := List.mem_of_find?_eq_some h
    have h2 := List.find?_some h
    simp only [decide_eq_true_eq] at h2
    rw [← h2]
    exact F_item_in i h1
  | none =>
    rcases item_in_any hl ho with e | ⟨i, hi, hw, e⟩
    · exact e
    · have := List.find?_eq_none.mp h i hi
      simp [hw] at this
end Rt
namespace Rt
open PySem PySem.Spec PyProof.Rows L2
/-! ### any text over the signs, read -/
def parts (z : Str) : List Str := Txt.split z comma
theorem joinL_mem (S : List Nat) : ∀ (ps : List (List Nat)) (p : List Nat), p ∈ ps → ∀ c ∈ p, c ∈ TL.joinL S ps
  | [q], p, h, c, hc => by
    rw [List.mem_singleton.mp h] at hc
    exact hc
  | q :: r :: t, p, h, c, hc => by
    show c ∈ q ++ (S ++ TL.joinL S (r :: t))
    rcases List.mem_cons.mp h with rfl | h
    · exact List.mem_append_left _ hc
    · exact List.mem_append_right _ (List.mem_append_right _ (joinL_mem S (r :: t) p h c hc))
theorem joinL_len (S : List Nat) : ∀ (ps : List (List Nat)) (p : List Nat), p ∈ ps → p.length ≤ (TL.joinL S ps).length
  | [q], p, h => by
    rw [List.mem_singleton.mp h]
    exact Nat.le_refl _
  | q :: r :: t, p, h => by
    show p.length ≤ (q ++ (S ++ TL.joinL S (r :: t))).length
    rw [List.length_append, List.length_append]
    rcases List.mem_cons.mp h with rfl | h
    · omega
    · have := joinL_len S (r :: t) p h
      omega
theorem joinL_num (s : Nat) : ∀ ps : List (List Nat), ps.length ≤ (TL.joinL [s] ps).length + 1
  | [] => by simp
  | [q] => by simp
  | q :: r :: t => by
    have := joinL_num s (r :: t)
    have e : TL.joinL [s] (q :: r :: t) = q ++ ([s] ++ TL.joinL [s] (r :: t)) := rfl
    rw [e, List.length_append, List.length_append]
    simp at this ⊢
    omega
theorem tl_parts (z : Str) : TL.tl z = TL.joinL [44] ((parts z).map TL.tl) := by
  have h := StrLaws.join_split z comma
  have h2 := TL.tl_join comma (Txt.split z comma)
  rw [h] at h2
  exact h2
theorem parts_ov {z p : Str} (ho : Ov z) (hp : p ∈ parts z) : Ov p := fun c hc => by
  refine ho c ?_
  rw [tl_parts]
  exact joinL_mem [44] _ _ (List.mem_map.mpr ⟨p, hp, rfl⟩) c hc
theorem parts_len {z p : Str} (hp : p ∈ parts z) : p.length ≤ z.length := by
  rw [TL.len_tl, TL.len_tl, tl_parts z]
  exact joinL_len [44] _ _ (List.mem_map.mpr ⟨p, hp, rfl⟩)
theorem parts_num (z : Str) : (parts z).length ≤ z.length + 1 := by
  have := joinL_num 44 ((parts z).map TL.tl)
  rw [← tl_parts, List.length_map] at this
  rw [TL.len_tl]
  exact this
theorem split_any {z : Str} (hl : z.length ≤ 100000) : dSplit (.str z) (.str ",") = some (.own (.lst ((parts z).map PyData.str))) := by
  simp only [dSplit]
  rw [if_pos ⟨by decide +kernel, by omega⟩]
  rfl
def okT (z : Str) : Bool := (parts z).all fun p => (itemT p).isSome
theorem Enc.opt : Enc 1 oD := ⟨fun x => by cases x with | none => simp [oD, PyData.canLay0] | some i => exact Enc.itm.lay i, fun x => by cases x with | none => simp [oD, PyData.depth] | some i => exact Enc.itm.dep i, fun x y => by
  cases x with
  | none => cases y with
    | none => simp [oD, PyData.eqv]
    | some j => simp [oD, iD, PyData.eqv]
  | some i => cases y with
    | none => simp [oD, iD, PyData.eqv]
    | some j => rw [show oD (some i) = iD i from rfl, show oD (some j) = iD j from rfl, Enc.itm.eqv]; simp⟩
theorem none_in_o (os : List (Option Itm)) : inD .none (.list (os.map oD)) = some (os.any Option.isNone) := by
  have h1 : ((os.map oD).any fun z => PyData.eqv z .none) = os.any Option.isNone := by
    rw [List.any_map]
    congr 1
    funext o
    cases o with
    | none => simp [oD, PyData.eqv]
    | some i => simp [oD, iD, PyData.eqv]
  have h2 : SeqAt.shaped (.list (os.map oD)) = true := Enc.opt.list.shaped (by decide) os
  have h3 : SeqAt.shaped .none = true := by decide +kernel
  unfold inD
  simp only [h1, h2, h3, Bool.and_self, if_true, ite_self]
def partsO (z : Str) : List (Option Itm) := (parts z).map itemT
theorem items_lc {z : Str} (hl : z.length ≤ 100000) (ho : Ov z) : lcM (iSq (met1 dSplit (eVar 0) (eC (.str ",")))) (tgN 2) (M.ret true) (callV 1 g_item_in (aLast (sto (eVar 2)))) [2] [.val (.str z), .un, .un] = .ok (.own (.lst ((partsO z).map oD))) [.val (.str z), .un, .un] := by
  have hn := parts_num z
  have := lcM_all (it := iSq (met1 dSplit (eVar 0) (eC (.str ",")))) (tg := tgN 2) (f := callV 1 g_item_in (aLast (sto (eVar 2)))) (vs := [2]) (Γ := [.val (.str z), .un, .un]) (Γ1 := [.val (.str z), .un, .un]) PyData.str (fun p => oD (itemT p)) (parts z)
    (by simp [split_any hl]) (by omega) (fun p hp => ⟨[.val (.str z), .un, .val (.str p)], by simp [wipeE], by simp [wipeE], rfl, fun _ => ⟨.val (oD (itemT p)), by simp [retV_of (item_in_ok (by have := parts_len hp; omega) (parts_ov ho hp))], rfl⟩⟩)
  unfold partsO
  rw [List.map_map]
  rw [this]
  rfl
theorem okT_any (z : Str) : (partsO z).any Option.isNone = !okT z := by
  unfold okT partsO
  rw [List.any_map, List.not_all_eq_any_not]
  congr 1
  funext p
  simp only [Function.comp_apply]
  cases itemT p <;> rfl
theorem items_in_any {z : Str} (hl : z.length ≤ 100000) (ho : Ov z) :
    (okT z = true ∧ vOf (g_items_in [.val (.str z)]) = some (.val (.list ((partsO z).map oD)))) ∨ (okT z = false ∧ vOf (g_items_in [.val (.str z)]) = some (.val .none)) := by
  have e := items_lc hl ho
  have hi := none_in_o (partsO z)
  rw [okT_any] at hi
  generalize hos : (partsO z).map oD = L at *
  cases hk : okT z with
  | true =>
    refine .inl ⟨rfl, vOf_ok (Γ := [.val (.str z), .val (.list L), .un]) (r := .val (.list L)) ?_ (fun _ => nofun)⟩
    rw [hk] at hi
    unfold g_items_in m_items_in
    simp [ap_fnP, ap_fnX, isi_str, e, hi]
  | false =>
    refine .inr ⟨rfl, vOf_ok (Γ := [.val (.str z), .val (.list L), .un]) ?_ (fun _ => nofun)⟩
    rw [hk] at hi
    unfold g_items_in m_items_in
    simp [ap_fnP, ap_fnX, isi_str, e, hi]
theorem is_text_any {z : Str} (hl : z.length ≤ 100000) (ho : Ov z) : vOf (g_is_text [.val (.str z)]) = some (.val (.bool (okT z))) := by
  refine vOf_ok (Γ := [.val (.str z)]) ?_ (fun _ => nofun)
  unfold g_is_text m_is_text
  rcases items_in_any hl ho with ⟨h, e⟩ | ⟨h, e⟩
  · have : dIsNot (.list ((partsO z).map oD)) .none = some (.val (.bool true)) := rfl
    simp [ap_fnP, ap_fnX, retV_of e, this, h]
  · have : dIsNot .none .none = some (.val (.bool false)) := rfl
    simp [ap_fnP, ap_fnX, retV_of e, this, h]
/-- the places of the parts that are no items -/
def badL : List Str → Nat → List Nat
  | [], _ => []
  | p :: r, k => if (itemT p).isNone then k :: badL r (k + 1) else badL r (k + 1)
def nD : Option Nat → D
  | some k => .int (k : Int)
  | none => .none
end Rt
namespace Rt
open PySem PySem.Spec PyProof.Rows L2
/-! ### loops by a relation -/
theorem for_rel {α β : Type} {tg : Tg} {b : M Fl} (e : α → D) (step : β → α → β) (Rl : β → En → Prop) : ∀ (xs : List α) (s : β) (Γ : En), (∀ x ∈ xs, ∀ s Γ, Rl s Γ → ∃ Γ1 Γ2, tg (e x) Γ = some Γ1 ∧ b Γ1 = .ok .nx Γ2 ∧ Rl (step s x) Γ2) → Rl s Γ →
    ∃ Γ', forL tg b (xs.map e) Γ = .ok .nx Γ' ∧ Rl (xs.foldl step s) Γ'
  | [], s, Γ, _, h => ⟨Γ, rfl, h⟩
  | x :: xs, s, Γ, hs, h => by
    obtain ⟨Γ1, Γ2, h1, h2, h3⟩ := hs x (by simp) s Γ h
    obtain ⟨Γ', h4, h5⟩ := for_rel e step Rl xs (step s x) Γ2 (fun y hy => hs y (by simp [hy])) h3
    refine ⟨Γ', ?_, h5⟩
    rw [List.map_cons, for_cons, h1, tgO_some, h2, and_ok, flF_nx, h4]
/-! ### texts, changed -/
theorem cut_ov {z : Str} (ho : Ov z) (lo hi : Option Int) : Ov (cutS z lo hi) := fun c hc => ho c (by
  have h : c ∈ List.take (HT.sIx z.length z.length hi - HT.sIx z.length 0 lo) (List.drop (HT.sIx z.length 0 lo) (TL.tl z)) := hc
  exact List.mem_of_mem_drop (List.mem_of_mem_take h))
theorem app_ov {a b : Str} (ha : Ov a) (hb : Ov b) : Ov (a ++ b) := fun c hc => by
  rw [TL.tl_append] at hc
  rcases List.mem_append.mp hc with h | h
  · exact ha c h
  · exact hb c h
theorem joinL_sub (S : List Nat) : ∀ (ps : List (List Nat)) (c : Nat), c ∈ TL.joinL S ps → c ∈ S ∨ ∃ p ∈ ps, c ∈ p
  | [], c, h => by cases h
  | [p], c, h => .inr ⟨p, by simp, h⟩
  | p :: q :: r, c, h => by
    have h : c ∈ p ++ (S ++ TL.joinL S (q :: r)) := h
    rcases List.mem_append.mp h with h | h
    · exact .inr ⟨p, by simp, h⟩
    · rcases List.mem_append.mp h with h | h
      · exact .inl h
      · rcases joinL_sub S (q :: r) c h with h | ⟨p', h1, h2⟩
        · exact .inl h
        · exact .inr ⟨p', List.mem_cons_of_mem _ h1, h2⟩
theorem F_wov : ∀ i ∈ items110, ∀ c ∈ TL.tl (wd i), c ∈ Al := by decide +kernel
theorem text_ov {its : List Itm} (h : ∀ i ∈ its, i ∈ items110) : Ov (text its) := fun c hc => by
  unfold text at hc
  rw [TL.join_eq, TL.tl_join] at hc
  rcases joinL_sub _ _ c hc with hc | ⟨p, hp, hc⟩
  · have : TL.tl comma = [44] := rfl
    rw [this] at hc
    rw [List.mem_singleton.mp hc]
    decide
  · obtain ⟨w, hw, rfl⟩ := List.mem_map.mp hp
    obtain ⟨i, hi, rfl⟩ := List.mem_map.mp hw
    exact F_wov i (h i hi) c hc
theorem len_app (a b : Str) : (a ++ b).length = a.length + b.length := by
  rw [TL.len_tl, TL.len_tl, TL.len_tl, TL.tl_append, List.length_append]
/-! ### the first part that is no item -/
def bad0 : List Str → Nat → Option Nat
  | [], _ => none
  | p :: r, k => if (itemT p).isNone then some k else bad0 r (k + 1)
def enumF (ps : List Str) : Nat → List D := fun k => match ps with
  | [] => []
  | p :: r => .tuple [.int ((k : Nat) : Int), .str p] :: enumF r (k + 1)
theorem enumF_eq : ∀ (ps : List Str) (k : Nat), enumF ps k = (List.range' k ps.length).zipWith (fun i d => PyData.tuple [.int ((i : Nat) : Int), d]) (ps.map PyData.str)
  | [], k => rfl
  | p :: r, k => by
    rw [enumF, enumF_eq r (k + 1), List.length_cons, List.range'_succ, List.map_cons, List.zipWith_cons_cons]
theorem enumL_strs (ps : List Str) : enumL (ps.map PyData.str) = enumF ps 0 := by
  unfold enumL
  rw [enumF_eq, List.length_map, List.range_eq_range']
theorem dIs_o (o : Option Itm) : dIs (oD o) .none = some (.val (.bool o.isNone)) := by
  cases o <;> rfl
theorem fault_loop (y : Sl) : ∀ (ps : List Str) (k : Nat) (z1 z2 : Sl), (∀ p ∈ ps, Ov p ∧ p.length ≤ 1000000) →
    ∃ z1' z2', forL (tgT [1, 2]) (sIf (tst (bin dIs (callV 1 g_item_in (aLast (sto (eVar 2)))) (eC .none))) (sRet (eVar 1)) (sNx)) (enumF ps k) [y, z1, z2] =
      .ok (match bad0 ps k with | some j => .ret (.val (.int ((j : Nat) : Int))) | none => .nx) [y, z1', z2']
  | [], k, z1, z2, _ => ⟨z1, z2, rfl⟩
  | p :: r, k, z1, z2, h => by
    obtain ⟨ho, hl⟩ := h p (by simp)
    have e := retV_of (item_in_ok hl ho)
    by_cases hb : (itemT p).isNone = true
    · refine ⟨.val (.int k), .val (.str p), ?_⟩
      rw [enumF, for_cons]
      simp [e, dIs_o, hb, bad0]
    · obtain ⟨a, b, q⟩ := fault_loop y r (k + 1) (.val (.int k)) (.val (.str p)) (fun p' hp => h p' (by simp [hp]))
      refine ⟨a, b, ?_⟩
      have hb : (itemT p).isNone = false := Bool.eq_false_iff.mpr hb
      rw [enumF, for_cons]
      simp [e, dIs_o, hb, bad0, q]
theorem first_fault_any {z : Str} (hl : z.length ≤ 100000) (ho : Ov z) : vOf (g_first_fault [.val (.str z)]) = some (.val (nD (bad0 (parts z) 0))) := by
  obtain ⟨a, b, q⟩ := fault_loop (.val (.str z)) (parts z) 0 .un .un (fun p hp => ⟨parts_ov ho hp, by have := parts_len hp; omega⟩)
  refine vOf_ok (Γ := [.val (.str z), a, b]) ?_ (fun _ => nofun)
  unfold g_first_fault m_first_fault
  simp [ap_fnX, isi_str, iEn, ap_bnd, split_any hl, enumL_strs, q]
  cases bad0 (parts z) 0 <;> simp [nD]
def badK (ps : List Str) : List Nat := (List.range ps.length).filter fun k => (itemT (ps.getD k Str.empty)).isNone
theorem badK_from : ∀ (ps : List Str) (k : Nat), ((List.range' k ps.length).filter fun j => (itemT (ps.getD (j - k) Str.empty)).isNone).head? = bad0 ps k
  | [], k => rfl
  | p :: r, k => by
    rw [List.length_cons, List.range'_succ, List.filter_cons]
    have e0 : (p :: r).getD (k - k) Str.empty = p := by simp
    rw [e0]
    by_cases hb : (itemT p).isNone = true
    · rw [if_pos hb]; simp [bad0, hb]
    · rw [if_neg hb]
      have hb' : (itemT p).isNone = false := Bool.eq_false_iff.mpr hb
      rw [bad0, hb', ← badK_from r (k + 1)]
      simp only [Bool.false_eq_true, if_false]
      congr 1
      apply List.filter_congr
      intro j hj
      have : k + 1 ≤ j := (List.mem_range'_1.mp hj).1
      have e : j - k = (j - (k + 1)) + 1 := by omega
      rw [e, List.getD_cons_succ]
theorem badK_head (ps : List Str) : (badK ps).head? = bad0 ps 0 := by
  rw [← badK_from ps 0]
  unfold badK
  rw [List.range_eq_range']
  rfl
theorem bad0_none : ∀ (ps : List Str) (k : Nat), bad0 ps k = none ↔ (ps.all fun p => (itemT p).isSome) = true
  | [], k => by simp [bad0]
  | p :: r, k => by
    rw [bad0, List.all_cons]
    cases h : itemT p with
    | none => simp
    | some i => simp [bad0_none r (k + 1)]
theorem badK_nil (z : Str) : decide (badK (parts z) = []) = okT z := by
  have h1 := badK_head (parts z)
  have h2 := bad0_none (parts z) 0
  unfold okT
  cases hb : badK (parts z) with
  | nil =>
    rw [hb] at h1
    rw [h2.mp h1.symm]
    rfl
  | cons a r =>
    rw [hb] at h1
    cases ho : ((parts z).all fun p => (itemT p).isSome) with
    | false => simp
    | true =>
      rw [h2.mpr ho] at h1
      cases h1
/-- a word is one of the words of the items -/
theorem in_words (p : Str) : inD (.str p) (.list ((items110.map wd).map PyData.str)) = some ((itemT p).isSome) := by
  have h1 : ((items110.map wd).map PyData.str).all flatD = true := by simp [flatD]
  have h2 : (((items110.map wd).map PyData.str).any fun z => PyData.eqv z (.str p)) = (itemT p).isSome := by
    have e : ∀ l : List Itm, ((l.map wd).map PyData.str).any (fun z => PyData.eqv z (.str p)) = (l.find? fun i => decide (wd i = p)).isSome := by
      intro l
      induction l with
      | nil => rfl
      | cons i r ih =>
        rw [List.map_cons, List.map_cons, List.any_cons, ih, List.find?_cons]
        simp only [PyData.eqv]
        by_cases h : wd i = p
        · simp [h]
        · have : (wd i == p) = false := by simpa using h
          rw [this, decide_eq_false h]
          rfl
    exact e items110
  unfold inD
  simp only [flatD, h1, Bool.and_self, if_true, h2]
end Rt
namespace Rt
open PySem PySem.Spec PyProof.Rows L2
/-! ### comprehensions that leave the slots -/
theorem lcG {α : Type} {it : M (List D)} {tg : Tg} {t : M Bool} {f : M R} {vs : List Nat} {Γ Γ1 : En} (e : α → D) (p : α → Bool) (g : α → D) (xs : List α) (hi : it Γ = .ok (xs.map e) Γ1) (hl : xs.length ≤ 1000000) (hb : backE Γ1 (wipeE Γ1 vs) vs = Γ1)
    (h : ∀ x ∈ xs, ∃ Γd, tg (e x) (wipeE Γ1 vs) = some Γd ∧ wipeE Γd vs = wipeE Γ1 vs ∧ t Γd = .ok (p x) Γd ∧ (p x = true → ∃ r, f Γd = .ok r Γd ∧ stD r Γd = .ok (g x) Γd)) :
    lcM it tg t f vs Γ = .ok (.own (.lst ((xs.filter p).map g))) Γ1 := by
  have := lcM_ok e p g xs hi hl (fun x hx => ⟨h x hx⟩)
  rw [hb] at this
  exact this
theorem lc1 {α : Type} {it : M (List D)} {v : Nat} {t : M Bool} {f : M R} {Γ Γ1 : En} (e : α → D) (p : α → Bool) (g : α → D) (xs : List α) (hi : it Γ = .ok (xs.map e) Γ1) (hl : xs.length ≤ 1000000) (hv : v < Γ1.length) (hb : Γ1.set v (bkS Γ1[v]?) = Γ1)
    (h : ∀ x ∈ xs, t (Γ1.set v (.val (e x))) = .ok (p x) (Γ1.set v (.val (e x))) ∧ (p x = true → ∃ r, f (Γ1.set v (.val (e x))) = .ok r (Γ1.set v (.val (e x))) ∧ stD r (Γ1.set v (.val (e x))) = .ok (g x) (Γ1.set v (.val (e x))))) :
    lcM it (tgN v) t f [v] Γ = .ok (.own (.lst ((xs.filter p).map g))) Γ1 := by
  refine lcG e p g xs hi hl (by rw [back1]; exact hb) fun x hx => ⟨Γ1.set v (.val (e x)), ?_, ?_, h x hx⟩
  · simp [wipeE, hv]
  · simp [wipeE]
theorem lc1a {α : Type} {it : M (List D)} {v : Nat} {f : M R} {Γ Γ1 : En} (e : α → D) (g : α → D) (xs : List α) (hi : it Γ = .ok (xs.map e) Γ1) (hl : xs.length ≤ 1000000) (hv : v < Γ1.length) (hb : Γ1.set v (bkS Γ1[v]?) = Γ1)
    (h : ∀ x ∈ xs, ∃ r, f (Γ1.set v (.val (e x))) = .ok r (Γ1.set v (.val (e x))) ∧ stD r (Γ1.set v (.val (e x))) = .ok (g x) (Γ1.set v (.val (e x)))) :
    lcM it (tgN v) (M.ret true) f [v] Γ = .ok (.own (.lst (xs.map g))) Γ1 := by
  rw [lc1 (t := M.ret true) e (fun _ => true) g xs hi hl hv hb (fun x hx => ⟨rfl, fun _ => h x hx⟩), List.filter_eq_self.mpr fun _ _ => rfl]
theorem foldl_app {α β : Type} (p : α → Bool) (f : α → β) : ∀ (xs : List α) (s : List β), xs.foldl (fun acc x => if p x = true then acc ++ [f x] else acc) s = s ++ (xs.filter p).map f
  | [], s => by simp
  | x :: xs, s => by
    rw [List.foldl_cons, foldl_app p f xs]
    by_cases h : p x = true <;> simp [h]
/-! ### draws -/
theorem do_text {Γ : En} {i : Nat} {kk : Option Nat} {ns : List Int} {n mi : Int} (m : Nat) (hm : 0 < m) (hm' : m < 1000) (hi : Γ[i]? = some (.own kk (.drw ns n))) (h0 : 0 < ns.length) (h1 : ns.length ≤ 63) (hmi : mi = (m : Int) := by rfl) :
    ∃ A : List Itm, (∀ j ∈ A, j ∈ items110) ∧ A ≠ [] ∧ A.length ≤ m ∧ ∃ (ns' : List Int) (n' : Int), ns'.length = ns.length ∧ callIO 2 g_L_text (aCons (eVar i) (aLast (sto (eC (.int mi))))) Γ = .ok (.own (.lst (A.map iD))) (Γ.set i (.own kk (.drw ns' n'))) := by
  subst hmi
  obtain ⟨A, hA, hA0, hA5, ns', n', Γ', l1, e1, f1⟩ := text_ok (n := n) m hm hm' h0 h1
  exact ⟨A, hA, List.length_pos_iff.mp hA0, hA5, ns', n', l1, io2 (g := g_L_text) (f := eC (.int m)) (Γ0 := Γ) (q := .val (.int m)) hi rfl rfl hi e1 f1 (fun _ => nofun)⟩
theorem do_set {Γ : En} {i : Nat} {kk : Option Nat} {ns : List Int} {n mi : Int} (m : Nat) (hm : 0 < m) (hm' : m < 1000) (hi : Γ[i]? = some (.own kk (.drw ns n))) (h0 : 0 < ns.length) (h1 : ns.length ≤ 63) (hmi : mi = (m : Int) := by rfl) :
    ∃ S ∈ setsTo m, ∃ (ns' : List Int) (n' : Int), ns'.length = ns.length ∧ callIO 2 g_L_set (aCons (eVar i) (aLast (sto (eC (.int mi))))) Γ = .ok (.own (.lst (S.map PyData.int))) (Γ.set i (.own kk (.drw ns' n'))) := by
  subst hmi
  obtain ⟨S, hS, ns', n', Γ', l1, e1, f1⟩ := set_ok (n := n) m hm hm' h0 h1
  exact ⟨S, hS, ns', n', l1, io2 (g := g_L_set) (f := eC (.int m)) (Γ0 := Γ) (q := .val (.int m)) hi rfl rfl hi e1 f1 (fun _ => nofun)⟩
/-- a draw below m, m by an expression -/
theorem do_draw {Γ : En} {i : Nat} {kk : Option Nat} {ns : List Int} {n m : Int} {f : M R} {q : R} (hm : 0 < m) (hm' : m < 1000000) (hf : f Γ = .ok q Γ) (hq : stD q Γ = .ok (.int m) Γ) (hi : Γ[i]? = some (.own kk (.drw ns n))) (h0 : 0 < ns.length) (h1 : ns.length ≤ 63) :
    ∃ v : Nat, (v : Int) < m ∧ ∃ (ns' : List Int) (n' : Int), ns'.length = ns.length ∧ callIO 2 g_L_draw (aCons (eVar i) (aLast (sto f))) Γ = .ok (.val (.int v)) (Γ.set i (.own kk (.drw ns' n'))) := by
  have lo := drawV_lo (ns := ns) (n := n) hm
  have hi' := drawV_hi (ns := ns) (n := n) hm
  obtain ⟨v, hv⟩ := Int.eq_ofNat_of_zero_le lo
  refine ⟨v, by omega, drawN ns n m, n + 1, drawN_length .., ?_⟩
  have := io2 (g := g_L_draw) (f := f) (Γ0 := Γ) (q := q) hi hf hq hi (draw_ok m h0 h1 hm hm') rfl (fun _ => nofun)
  rw [this, hv]
/-- a pick out of a list -/
theorem do_pick {Γ Γ0 Γ1 : En} {i : Nat} {kk : Option Nat} {ns : List Int} {n : Int} {f : M R} {q : R} {ds : List D} (hd : ds ≠ []) (hl : ds.length < 1000000) (hf : f Γ = .ok q Γ0) (hq : stD q Γ0 = .ok (.list ds) Γ1) (hi : Γ[i]? = some (.own kk (.drw ns n))) (hi1 : Γ1[i]? = some (.own kk (.drw ns n))) (h0 : 0 < ns.length) (h1 : ns.length ≤ 63) :
    ∃ d ∈ ds, ∃ (ns' : List Int) (n' : Int), ns'.length = ns.length ∧ callIO 2 g_L_pick (aCons (eVar i) (aLast (sto f))) Γ = .ok (.val d) (Γ1.set i (.own kk (.drw ns' n'))) := by
  obtain ⟨d, hd, ns', l1, e1⟩ := pick_ok (ns := ns) (n := n) (ds := ds) h0 h1 hd hl
  exact ⟨d, hd, ns', n + 1, l1, io2 (g := g_L_pick) (f := f) (Γ0 := Γ0) (q := q) hi hf hq hi1 e1 rfl (fun _ => nofun)⟩
/-! ### counts -/
theorem in_nums (n : Int) (i : Itm) : inD (.int n) (.list ((nums i).map PyData.int)) = some (decide (n ∈ nums i)) := in_dl n (nums i)
theorem count_lc {g : En → Rs R} {Γ : En} {a b v : Nat} {A : List Itm} {n : Int} (hg : ∀ i ∈ items110, vOf (g [.val (iD i)]) = some (.own (.lst ((nums i).map .int)))) (hA : ∀ i ∈ A, i ∈ items110) (hl : A.length ≤ 1000000) (ha : Γ[a]? = some (.val (di A))) (hb : Γ[b]? = some (.val (.int n))) (hv : Γ[v]? = some .un) (hav : v ≠ b) :
    lcM (iSq (eVar a)) (tgN v) (tst (bin dIn (eVar b) (callV 1 g (aLast (sto (eVar v)))))) (eVar v) [v] Γ = .ok (.own (.lst ((A.filter fun i => decide (n ∈ nums i)).map iD))) Γ := by
  have hvl : v < Γ.length := (List.getElem?_eq_some_iff.mp hv).1
  refine lc1 iD (fun i => decide (n ∈ nums i)) iD A (by simp [ha]) hl hvl (by rw [hv, bkS_un, set_un hv]) fun i hi => ?_
  have h1 : (Γ.set v (.val (iD i)))[v]? = some (.val (iD i)) := by rw [List.getElem?_set_self hvl]
  have h2 : (Γ.set v (.val (iD i)))[b]? = some (.val (.int n)) := by rw [List.getElem?_set_ne hav, hb]
  have e := retV_of (hg i (hA i hi))
  refine ⟨by simp [h1, h2, e, in_nums], fun _ => ⟨.bor v, by simp [h1], by simp [h1]⟩⟩
def timesT (A : List Itm) (n : Int) : Int := ((A.filter fun i => decide (n ∈ nums i)).length : Nat)
def covT (A : List Itm) : List (Int × Int) := (meantT A).map fun n => (n, timesT A n)
def pD (p : Int × Int) : D := .tuple [.int p.1, .int p.2]
theorem meant_len (A : List Itm) : (meantT A).length ≤ 10 := List.length_filter_le _ _
theorem covered_times_ok {A : List Itm} (hA : ∀ i ∈ A, i ∈ items110) (hne : A ≠ []) (hl : A.length ≤ 300) : vOf (g_covered_times [.val (.str (text A))]) = some (.own (.lst ((covT A).map pD))) := by
  refine vOf_ok (Γ := [.val (.str (text A)), .val (di A), .un, .un]) ?_ (fun _ => nofun)
  have e : lcM (iSq (callV 1 g_set_of (aLast (sto (eVar 1))))) (tgN 2) (M.ret true) (mkTup (aCons (sto (eVar 2)) (aLast (sto (callD dLen (aLast (lcM (iSq (eVar 1)) (tgN 3) (tst (bin dIn (eVar 2) (callV 1 g_numbers_of (aLast (sto (eVar 3)))))) (eVar 3) [3]))))))) [2] [.val (.str (text A)), .val (di A), .un, .un]
      = .ok (.own (.lst ((meantT A).map fun n => pD (n, timesT A n)))) [.val (.str (text A)), .val (di A), .un, .un] := by
    have hm := meant_len A
    refine lc1a PyData.int (fun n => pD (n, timesT A n)) (meantT A) (by simp [retV_of (set_of_ok hA hl)]) (by omega) (by simp) rfl fun n hn => ?_
    have c := count_lc (Γ := [.val (.str (text A)), .val (di A), .val (.int n), .un]) (a := 1) (b := 2) (v := 3) (n := n) F_numbers_of hA (by omega) rfl rfl rfl (by decide)
    exact ⟨.val (pD (n, timesT A n)), by simp [c, pD, timesT], rfl⟩
  unfold g_covered_times m_covered_times
  simp [ap_fnX, retV_of (check_text_ok hA hne (by omega)), retV_of (items_in_ok hA hne (by omega)), e]
  simp [covT, Function.comp_def]
theorem Enc.pair : Enc 1 pD := ⟨fun x => by simp [pD, PyData.canLay0, PyData.canLayAll0], fun x => by simp [pD, PyData.depth, PyData.depthAll], fun x y => by
  obtain ⟨a, b⟩ := x
  obtain ⟨a', b'⟩ := y
  simp only [pD, PyData.eqv, PyData.eqvAll, Prod.mk.injEq]
  by_cases h1 : a = a' <;> by_cases h2 : b = b' <;> simp [h1, h2]⟩
theorem ne_pd (x y : List (Int × Int)) : dNe (.list (x.map pD)) (.list (y.map pD)) = some (.val (.bool (!decide (x = y)))) := Enc.pair.list.ne (by decide) x y
theorem eq_pd (x y : List (Int × Int)) : dEq (.list (x.map pD)) (.list (y.map pD)) = some (.val (.bool (decide (x = y)))) := Enc.pair.list.eq (by decide) x y
/-! ### the items of single numbers -/
def one1 (n : Int) : Itm := (n, n, 1)
def oneT (S : List Int) : List Itm := S.map one1
theorem F_one : ∀ n ∈ ten, one1 n ∈ items110 ∧ dStr [.int n] = some (.val (.str (wd (one1 n)))) ∧ nums (one1 n) = [n] := by
  have h : ∀ n ∈ ten, one1 n ∈ items110 ∧ nums (one1 n) = [n] := by decide +kernel
  have h2 : ∀ n ∈ ten, dStr [.int n] = some (.val (.str (wd (one1 n)))) := all_of (by kernel_rfl)
  exact fun n hn => ⟨(h n hn).1, h2 n hn, (h n hn).2⟩
theorem subs_ten {S : List Int} : ∀ {L : List Int}, S ∈ subsL L → ∀ n ∈ S, n ∈ L
  | [], h, n, hn => by
    have : S = [] := by simpa [subsL] using h
    rw [this] at hn; cases hn
  | x :: L, h, n, hn => by
    simp only [subsL, List.mem_append, List.mem_map] at h
    rcases h with ⟨T, hT, rfl⟩ | h
    · rcases List.mem_cons.mp hn with rfl | hn
      · simp
      · exact List.mem_cons_of_mem _ (subs_ten hT n hn)
    · exact List.mem_cons_of_mem _ (subs_ten h n hn)
theorem one110 {S : List Int} (h : S ∈ subsL ten) : ∀ i ∈ oneT S, i ∈ items110 := fun i hi => by
  obtain ⟨n, hn, rfl⟩ := List.mem_map.mp hi
  exact (F_one n (subs_ten h n hn)).1
/-- a set of the first numbers, as what is in it -/
theorem subs_filter_eq : ∀ {L S : List Int}, L.Nodup → S ∈ subsL L → S = L.filter fun n => decide (n ∈ S)
  | [], S, _, h => by simpa [subsL] using h
  | x :: L, S, nd, h => by
    obtain ⟨hx, nd'⟩ := List.nodup_cons.mp nd
    simp only [subsL, List.mem_append, List.mem_map] at h
    rcases h with ⟨T, hT, rfl⟩ | h
    · have e := subs_filter_eq nd' hT
      rw [List.filter_cons, if_pos (by simp)]
      congr 1
      rw [e]
      apply List.filter_congr
      intro n hn
      have : n ≠ x := fun z => hx (z ▸ hn)
      rw [← e]
      simp [this]
    · have e := subs_filter_eq nd' h
      have hxS : x ∉ S := fun z => hx (subs_ten h x z)
      rw [List.filter_cons, if_neg (by simpa using hxS)]
      exact e
theorem ten_nodup : ten.Nodup := by decide
theorem meant_eq {A : List Itm} {S : List Int} (h : S ∈ subsL ten) (he : ∀ n ∈ ten, n ∈ flat A ↔ n ∈ S) : meantT A = S := by
  rw [subs_filter_eq ten_nodup h]
  unfold meantT
  apply List.filter_congr
  intro n hn
  have := he n hn
  by_cases h1 : n ∈ S <;> simp [h1, this]
theorem mem_flat {A : List Itm} {n : Int} : n ∈ flat A ↔ ∃ i ∈ A, n ∈ nums i := List.mem_flatMap
theorem mem_meant {A : List Itm} {n : Int} : n ∈ meantT A ↔ n ∈ flat A := by
  unfold meantT
  simp only [List.mem_filter, decide_eq_true_eq]
  exact ⟨fun h => h.2, fun h => ⟨flat_ten A n h, h⟩⟩
theorem meant_one {S : List Int} (h : S ∈ subsL ten) : meantT (oneT S) = S := meant_eq h fun n hn => by
  rw [mem_flat]
  constructor
  · rintro ⟨i, hi, hn⟩
    obtain ⟨m, hm, rfl⟩ := List.mem_map.mp hi
    rw [(F_one m (subs_ten h m hm)).2.2] at hn
    rw [List.mem_singleton.mp hn]; exact hm
  · intro hS
    exact ⟨one1 n, List.mem_map.mpr ⟨n, hS, rfl⟩, by rw [(F_one n hn).2.2]; simp⟩
/-- ",".join([str(one) for one in S]) -/
theorem join_strs {Γ : En} {i v : Nat} {S : List Int} (h : S ∈ subsL ten) (hi : Γ[i]? = some (.val (dl S))) (hv : Γ[v]? = some .un) :
    met1 dJoin (eC (.str ",")) (lcM (iSq (eVar i)) (tgN v) (M.ret true) (callD dStr (aLast (eVar v))) [v]) Γ = .ok (.val (.str (text (oneT S)))) Γ := by
  have hvl : v < Γ.length := (List.getElem?_eq_some_iff.mp hv).1
  have hl : S.length ≤ 10 := by
    have := congrArg List.length (subs_filter_eq ten_nodup h)
    have h2 := List.length_filter_le (fun n => decide (n ∈ S)) ten
    have h3 : ten.length = 10 := rfl
    omega
  have e := lc1a (v := v) (f := callD dStr (aLast (eVar v))) (Γ := Γ) (Γ1 := Γ) (it := iSq (eVar i)) PyData.int (fun n => .str (wd (one1 n))) S (by simp [hi]) (by omega) hvl (by rw [hv, bkS_un, set_un hv]) fun n hn => by
    have h1 : (Γ.set v (.val (.int n)))[v]? = some (.val (.int n)) := by rw [List.getElem?_set_self hvl]
    exact ⟨.val (.str (wd (one1 n))), by simp [h1, (F_one n (subs_ten h n hn)).2.1], rfl⟩
  have j := join_words (one110 h) (by simp [oneT]; omega)
  unfold comma oneT at j
  rw [List.map_map, List.map_map] at j
  have hc : (S.map fun n => PyData.str (wd (one1 n))) = S.map (PyData.str ∘ wd ∘ one1) := rfl
  rw [hc] at e
  have j' : (S.map ((PyData.str ∘ wd) ∘ one1)) = S.map (PyData.str ∘ wd ∘ one1) := rfl
  rw [j'] at j
  simp [e, j, oneT]
end Rt
namespace Rt
open PySem PySem.Spec PyProof.Rows L2
/-! ### what raises -/
def eOf (x : Rs R) : Option Nat := match x with
  | .exc n _ => some n
  | _ => none
theorem retE_of {x : Rs R} {n : Nat} (h : eOf x = some n) (Γ : En) : retV x Γ = .exc n Γ := by
  unfold eOf at h
  split at h
  · cases h; rfl
  · cases h
theorem eOf_ok {x : Rs R} {n : Nat} {Γ : En} (h : x = .exc n Γ) : eOf x = some n := by subst h; rfl
def errN : Nat → Str
  | 0 => "set"
  | 1 => "item"
  | 2 => "number"
  | 3 => "text"
  | _ => "none"
theorem F_error : ∀ n, n < 5 → ∃ Γ, g_L_error [.own (some 0) (.exc n)] = .ok (.val (.str (errN n))) Γ ∧ Γ[0]? = some (.own (some 0) (.exc n)) := by
  intro n hn
  match n, hn with
  | 0, _ => exact ⟨[.own (some 0) (.exc 0), .val (.list [.bool true, .bool false, .bool false, .bool false, .bool false])], by kernel_rfl, rfl⟩
  | 1, _ => exact ⟨[.own (some 0) (.exc 1), .val (.list [.bool false, .bool true, .bool false, .bool false, .bool false])], by kernel_rfl, rfl⟩
  | 2, _ => exact ⟨[.own (some 0) (.exc 2), .val (.list [.bool false, .bool false, .bool true, .bool false, .bool false])], by kernel_rfl, rfl⟩
  | 3, _ => exact ⟨[.own (some 0) (.exc 3), .val (.list [.bool false, .bool false, .bool false, .bool true, .bool false])], by kernel_rfl, rfl⟩
  | 4, _ => exact ⟨[.own (some 0) (.exc 4), .val (.list [.bool false, .bool false, .bool false, .bool false, .bool true])], by kernel_rfl, rfl⟩
/-- _law_error(caught) -/
theorem call_error {Γ : En} {i n : Nat} {kk : Option Nat} (hn : n < 5) (hi : Γ[i]? = some (.own kk (.exc n))) : callIO 1 g_L_error (aLast (eVar i)) Γ = .ok (.val (.str (errN n))) Γ := by
  obtain ⟨Γ', e, f⟩ := F_error n hn
  have hs : Γ.set i (.own kk (.exc n)) = Γ := by
    apply List.ext_getElem?
    intro j
    rw [List.getElem?_set]
    by_cases h : i = j
    · subst h
      rw [if_pos rfl, hi, if_pos (List.getElem?_eq_some_iff.mp hi).1]
    · rw [if_neg h]
  unfold callIO aLast eVar
  simp only [M.bnd, hi, M.ret, argIO, valsOf, Option.map, slV, List.map, List.length_cons, List.length_nil]
  unfold retIO
  simp only [if_pos, e, afterIO, hi, f, hs]
/-! ### is_int, is_set -/
theorem isi_ii {a : Int} : dIsi "int" (.int a) = some (.val (.bool true)) := (rfl)
theorem isi_ib {a : Int} : dIsi "bool" (.int a) = some (.val (.bool false)) := (rfl)
theorem isi_ll {a : List D} : dIsi "list" (.list a) = some (.val (.bool true)) := (rfl)
theorem is_int_ok (a lo hi : Int) : vOf (g_is_int [.val (.int a), .val (.int lo), .val (.int hi)]) = some (.val (.bool (decide (lo ≤ a) && decide (a ≤ hi)))) := by
  refine vOf_ok (Γ := [.val (.int a), .val (.int lo), .val (.int hi)]) ?_ (fun _ => nofun)
  have hc := ap_chn (d1 := dLe) (d2 := dLe) (fa := eVar 1) (fb := eVar 0) (fc := eVar 2) (Γ := [.val (.int a), .val (.int lo), .val (.int hi)]) (ra := .bor 1) (ra' := .bor 1) (rb := .bor 0) (rb' := .bor 0) rfl rfl rfl rfl rfl rfl
  unfold g_is_int m_is_int
  by_cases h : lo ≤ a
  · simp [ap_fnP, isi_ii, isi_ib, hc, h]
  · simp [ap_fnP, isi_ii, isi_ib, hc, h]
def rowT : List Int → Bool
  | [] => true
  | [_] => true
  | a :: b :: r => decide (a < b) && rowT (b :: r)
def setB (S : List Int) : Bool := !S.isEmpty && S.all (fun a => decide (1 ≤ a) && decide (a ≤ 10)) && rowT S
theorem boolsOf_map {α : Type} (f : α → Bool) : ∀ xs : List α, boolsOf (xs.map fun x => PyData.bool (f x)) = some (xs.map f)
  | [] => rfl
  | x :: xs => by simp [boolsOf, boolsOf_map f xs]
theorem dAll_map {α : Type} (f : α → Bool) (xs : List α) : dAll [.list (xs.map fun x => PyData.bool (f x))] = some (.val (.bool (xs.all f))) := by
  simp only [dAll, boolsOf_map]
  simp [Function.comp_def]
theorem zip_row : ∀ S : List Int, ((S.zip (S.drop 1)).all fun p => decide (p.1 < p.2)) = rowT S
  | [] => rfl
  | [a] => rfl
  | a :: b :: r => by
    have := zip_row (b :: r)
    simp only [List.drop_succ_cons, List.drop_zero] at this ⊢
    simp [rowT, ← this]
theorem zipL_ints (S T : List Int) : zipL (S.map PyData.int) (T.map PyData.int) = (S.zip T).map fun p => pD p := by
  unfold zipL
  rw [List.zipWith_map, List.zip, List.map_zipWith]
  rfl
theorem is_set_any (S : List Int) (hl : S.length ≤ 1000) : vOf (g_is_set [.val (dl S)]) = some (.val (.bool (setB S))) := by
  have e1 : lcM (iSq (eVar 0)) (tgN 1) (M.ret true) (callV 3 g_is_int (aCons (sto (eVar 1)) (aCons (sto (eC (.int 1))) (aLast (sto (eC (.int 10))))))) [1] [.val (dl S), .un, .un, .un] = .ok (.own (.lst (S.map fun a => PyData.bool (decide (1 ≤ a) && decide (a ≤ 10))))) [.val (dl S), .un, .un, .un] :=
    lc1a PyData.int (fun a => PyData.bool (decide (1 ≤ a) && decide (a ≤ 10))) S (by simp) (by omega) (by simp) rfl fun a ha => ⟨.val (.bool (decide (1 ≤ a) && decide (a ≤ 10))), by simp [retV_of (is_int_ok a 1 10)], rfl⟩
  have hs : dSl (.list (S.map PyData.int)) (some 1) none = some (.own (.lst ((S.drop 1).map PyData.int))) := by
    simp only [dSl]
    have : cutL (S.map PyData.int) (some ((1 : Nat) : Int)) none = (S.map PyData.int).drop 1 := by
      cases S with
      | nil => rfl
      | cons a r => exact cut_hi (by simp)
    rw [show (1 : Int) = ((1 : Nat) : Int) from rfl, this, ← List.map_drop]
  have e2 : lcM (iZp (eVar 0) (slc (eVar 0) (soI (eC (.int 1))) (noI))) (tgT [2, 3]) (M.ret true) (bin dLt (eVar 2) (eVar 3)) [2, 3] [.val (dl S), .un, .un, .un] = .ok (.own (.lst ((S.zip (S.drop 1)).map fun p => PyData.bool (decide (p.1 < p.2))))) [.val (dl S), .un, .un, .un] := by
    have := lcG (it := iZp (eVar 0) (slc (eVar 0) (soI (eC (.int 1))) (noI))) (tg := tgT [2, 3]) (t := M.ret true) (f := bin dLt (eVar 2) (eVar 3)) (vs := [2, 3]) (Γ := [.val (dl S), .un, .un, .un]) (Γ1 := [.val (dl S), .un, .un, .un]) pD (fun _ => true) (fun p => PyData.bool (decide (p.1 < p.2))) (S.zip (S.drop 1))
      (by rw [← zipL_ints]; simp [iZp, ap_bnd, hs, -List.drop_one, -List.map_drop]) (by simp; omega) rfl fun p hp => ⟨[.val (dl S), .un, .val (.int p.1), .val (.int p.2)], by simp [wipeE, pD], by simp [wipeE], rfl, fun _ => ⟨.val (.bool (decide (p.1 < p.2))), by simp, rfl⟩⟩
    rw [this, List.filter_eq_self.mpr fun _ _ => rfl]
  refine vOf_ok (Γ := [.val (dl S), .un, .un, .un]) ?_ (fun _ => nofun)
  unfold g_is_set m_is_set
  cases S with
  | nil =>
    have : dEq (.list []) (.list []) = some (.val (.bool true)) := eq_dl [] []
    simp [dl, ap_fnP, isi_ll, this, setB]
  | cons a r =>
    have h0 : dEq (.list (PyData.int a :: r.map PyData.int)) (.list []) = some (.val (.bool false)) := by
      have := eq_dl (a :: r) []
      simpa using this
    have a1 := dAll_map (fun a => decide (1 ≤ a) && decide (a ≤ 10)) (a :: r)
    have a2 := dAll_map (fun p : Int × Int => decide (p.1 < p.2)) ((a :: r).zip ((a :: r).drop 1))
    rw [zip_row] at a2
    by_cases hb : ((a :: r).all fun a => decide (1 ≤ a) && decide (a ≤ 10)) = true
    · rw [hb] at a1
      have hS : setB (a :: r) = rowT (a :: r) := by unfold setB; rw [hb]; simp
      rw [hS]
      simp only [dl, List.map_cons] at e1 e2
      simp only [List.map_cons] at a1
      simp [dl, ap_fnP, isi_ll, h0, e1, e2, a1, a2, -List.all_cons, -List.drop_one, -List.drop_succ_cons, -List.drop_zero]
    · have hb : ((a :: r).all fun a => decide (1 ≤ a) && decide (a ≤ 10)) = false := Bool.eq_false_iff.mpr hb
      rw [hb] at a1
      have hS : setB (a :: r) = false := by unfold setB; rw [hb]; simp
      rw [hS]
      simp only [dl, List.map_cons] at e1 e2
      simp only [List.map_cons] at a1
      simp [dl, ap_fnP, isi_ll, h0, e1, a1, -List.all_cons]
/-! ### sets put together -/
def bothT (S T : List Int) : List Int := ten.filter fun n => decide (n ∈ S) || decide (n ∈ T)
theorem add_ints {a b : List Int} (hl : a.length + b.length ≤ 1000000) : dAdd (.list (a.map PyData.int)) (.list (b.map PyData.int)) = some (.own (.lst ((a ++ b).map PyData.int))) := by
  rw [dAdd_list, if_pos (by simpa using hl), List.map_append]
theorem subs_len {S : List Int} (h : S ∈ subsL ten) : S.length ≤ 10 := by
  have := congrArg List.length (subs_filter_eq ten_nodup h)
  have h2 := List.length_filter_le (fun n => decide (n ∈ S)) ten
  have h3 : ten.length = 10 := rfl
  omega
theorem mem_appI {S T : List Int} (hS : ∀ n ∈ S, n ∈ ten) (hT : ∀ n ∈ T, n ∈ ten) : ∀ n ∈ S ++ T, n ∈ ten := fun n h => (List.mem_append.mp h).elim (hS n) (hT n)
theorem both_ok {S T : List Int} (hS : S ∈ sets) (hT : T ∈ sets) : vOf (g_both [.val (dl S), .val (dl T)]) = some (.own (.lst ((bothT S T).map PyData.int))) := by
  have l1 := subs_len (sets_subs hS)
  have l2 := subs_len (sets_subs hT)
  have hs := sSet_ok (f := bin dAdd (eVar 0) (eVar 1)) (Γ := [.val (dl S), .val (dl T)]) (Γ1 := [.val (dl S), .val (dl T)]) (r := .own (.lst ((S ++ T).map PyData.int))) (by simp [add_ints (show S.length + T.length ≤ 1000000 by omega), -dAdd_list]) rfl (mem_appI (subs_ten (sets_subs hS)) (subs_ten (sets_subs hT))) (by simp; omega)
  refine vOf_ok (Γ := [.val (dl S), .val (dl T)]) ?_ (fun _ => nofun)
  unfold g_both m_both
  simp [ap_fnX, retV_of (F_check_set S hS), retV_of (F_check_set T hT), hs, -ap_sSet]
  rfl
theorem filter_subs (p : Int → Bool) {S : List Int} (h : S ∈ subsL ten) : S.filter p ∈ subsL ten := by
  rw [subs_filter_eq ten_nodup h, List.filter_filter]
  exact subs_filter _ ten
theorem mem_sets {S : List Int} (h : S ∈ subsL ten) (hn : S ≠ []) : S ∈ sets := by
  rw [sets_eq]
  refine List.mem_filter.mpr ⟨h, ?_⟩
  cases S with
  | nil => exact absurd rfl hn
  | cons a b => rfl
theorem lc_in {Γ : En} {a b v : Nat} {S T : List Int} (ha : Γ[a]? = some (.val (dl S))) (hb : Γ[b]? = some (.val (dl T))) (hv : Γ[v]? = some .un) (hl : S.length ≤ 1000000) : lcM (iSq (eVar a)) (tgN v) (tst (bin dIn (eVar v) (eVar b))) (eVar v) [v] Γ = .ok (.own (.lst ((S.filter fun n => decide (n ∈ T)).map PyData.int))) Γ := by
  have hvl : v < Γ.length := (List.getElem?_eq_some_iff.mp hv).1
  have hvb : v ≠ b := fun z => by rw [z, hb] at hv; cases hv
  refine lc1 PyData.int (fun n => decide (n ∈ T)) PyData.int S (by simp [ha]) hl hvl (by rw [hv, bkS_un, set_un hv]) fun n hn => ?_
  have h1 : (Γ.set v (.val (.int n)))[v]? = some (.val (.int n)) := by rw [List.getElem?_set_self hvl]
  have h2 : (Γ.set v (.val (.int n)))[b]? = some (.val (dl T)) := by rw [List.getElem?_set_ne hvb, hb]
  exact ⟨by simp [h1, h2, in_dl], fun _ => ⟨.bor v, by simp [h1], by simp [h1]⟩⟩
theorem lc_out {it : M (List D)} {Γ : En} {b v : Nat} {S T : List Int} (ha : it Γ = .ok (S.map PyData.int) Γ) (hb : Γ[b]? = some (.val (dl T))) (hv : Γ[v]? = some .un) (hl : S.length ≤ 1000000) : lcM it (tgN v) (tst (bin dNotIn (eVar v) (eVar b))) (eVar v) [v] Γ = .ok (.own (.lst ((S.filter fun n => !decide (n ∈ T)).map PyData.int))) Γ := by
  have hvl : v < Γ.length := (List.getElem?_eq_some_iff.mp hv).1
  have hvb : v ≠ b := fun z => by rw [z, hb] at hv; cases hv
  refine lc1 PyData.int (fun n => !decide (n ∈ T)) PyData.int S ha hl hvl (by rw [hv, bkS_un, set_un hv]) fun n hn => ?_
  have h1 : (Γ.set v (.val (.int n)))[v]? = some (.val (.int n)) := by rw [List.getElem?_set_self hvl]
  have h2 : (Γ.set v (.val (.int n)))[b]? = some (.val (dl T)) := by rw [List.getElem?_set_ne hvb, hb]
  exact ⟨by simp [h1, h2, in_dl], fun _ => ⟨.bor v, by simp [h1], by simp [h1]⟩⟩
theorem eq_nil_int (x : List Int) : dEq (.list (x.map PyData.int)) (.list []) = some (.val (.bool (decide (x = [])))) := eq_dl x []
theorem eq_nn : dEq (.list []) (.list []) = some (.val (.bool true)) := eq_dl [] []
def inT (S T : List Int) : List Int := S.filter fun n => decide (n ∈ T)
def outT (S T : List Int) : List Int := S.filter fun n => !decide (n ∈ T)
theorem common_ok {S T : List Int} (hS : S ∈ sets) (hT : T ∈ sets) : (inT S T ≠ [] ∧ vOf (g_common [.val (dl S), .val (dl T)]) = some (.val (dl (inT S T)))) ∨ (inT S T = [] ∧ eOf (g_common [.val (dl S), .val (dl T)]) = some 4) := by
  have l1 := subs_len (sets_subs hS)
  have e := lc_in (Γ := [.val (dl S), .val (dl T), .un, .un]) (a := 0) (b := 1) (v := 3) rfl rfl rfl (show S.length ≤ 1000000 by omega)
  by_cases h : inT S T = []
  · refine .inr ⟨h, eOf_ok (Γ := [.val (dl S), .val (dl T), .val (dl (inT S T)), .un]) ?_⟩
    unfold g_common m_common
    unfold inT at h ⊢
    simp only [dl] at e ⊢
    simp [ap_fnX, retV_of (F_check_set S hS), retV_of (F_check_set T hT), e, eq_nil_int, eq_nn, h, -List.filter_eq_nil_iff]
  · refine .inl ⟨h, vOf_ok (Γ := [.val (dl S), .val (dl T), .val (dl (inT S T)), .un]) ?_ (fun _ => nofun)⟩
    unfold g_common m_common
    unfold inT at h ⊢
    simp only [dl] at e ⊢
    simp [ap_fnX, retV_of (F_check_set S hS), retV_of (F_check_set T hT), e, eq_nil_int, eq_nn, h, -List.filter_eq_nil_iff]
theorem less_ok {S T : List Int} (hS : S ∈ sets) (hT : T ∈ sets) : (outT S T ≠ [] ∧ vOf (g_less [.val (dl S), .val (dl T)]) = some (.val (dl (outT S T)))) ∨ (outT S T = [] ∧ eOf (g_less [.val (dl S), .val (dl T)]) = some 4) := by
  have l1 := subs_len (sets_subs hS)
  have e := lc_out (it := iSq (eVar 0)) (Γ := [.val (dl S), .val (dl T), .un, .un]) (b := 1) (v := 3) (S := S) (T := T) (by simp) rfl rfl (show S.length ≤ 1000000 by omega)
  by_cases h : outT S T = []
  · refine .inr ⟨h, eOf_ok (Γ := [.val (dl S), .val (dl T), .val (dl (outT S T)), .un]) ?_⟩
    unfold g_less m_less
    unfold outT at h ⊢
    simp only [dl] at e ⊢
    simp [ap_fnX, retV_of (F_check_set S hS), retV_of (F_check_set T hT), e, eq_nil_int, eq_nn, h, -List.filter_eq_nil_iff]
  · refine .inl ⟨h, vOf_ok (Γ := [.val (dl S), .val (dl T), .val (dl (outT S T)), .un]) ?_ (fun _ => nofun)⟩
    unfold g_less m_less
    unfold outT at h ⊢
    simp only [dl] at e ⊢
    simp [ap_fnX, retV_of (F_check_set S hS), retV_of (F_check_set T hT), e, eq_nil_int, eq_nn, h, -List.filter_eq_nil_iff]
theorem rg_ten : rg2 [.int 1, .int 11] = some (ten.map PyData.int) := by kernel_rfl
theorem add_10_1 : dAdd (.int 10) (.int 1) = some (.val (.int 11)) := rfl
theorem others_ok {S : List Int} (hS : S ∈ sets) : (outT ten S ≠ [] ∧ vOf (g_others [.val (dl S)]) = some (.val (dl (outT ten S)))) ∨ (outT ten S = [] ∧ eOf (g_others [.val (dl S)]) = some 4) := by
  have e := lc_out (it := iRg rg2 (aCons (eC (.int 1)) (aLast (bin dAdd (eC (.int 10)) (eC (.int 1)))))) (Γ := [.val (dl S), .un, .un]) (b := 0) (v := 2) (S := ten) (T := S) (by simp [rg_ten]) rfl rfl (by decide)
  by_cases h : outT ten S = []
  · refine .inr ⟨h, eOf_ok (Γ := [.val (dl S), .val (dl (outT ten S)), .un]) ?_⟩
    unfold g_others m_others
    unfold outT at h ⊢
    simp only [dl] at e ⊢
    simp [ap_fnX, retV_of (F_check_set S hS), e, eq_nil_int, eq_nn, h, -List.filter_eq_nil_iff]
  · refine .inl ⟨h, vOf_ok (Γ := [.val (dl S), .val (dl (outT ten S)), .un]) ?_ (fun _ => nofun)⟩
    unfold g_others m_others
    unfold outT at h ⊢
    simp only [dl] at e ⊢
    simp [ap_fnX, retV_of (F_check_set S hS), e, eq_nil_int, eq_nn, h, -List.filter_eq_nil_iff]
def mirT (S : List Int) : List Int := S.reverse.map fun n => 11 - n
theorem mirrored_ok {S : List Int} (hS : S ∈ sets) : vOf (g_mirrored [.val (dl S)]) = some (.own (.lst ((mirT S).map PyData.int))) := by
  have l1 := subs_len (sets_subs hS)
  have e : lcM (iSq (revR (eVar 0))) (tgN 1) (M.ret true) (bin dSub (bin dAdd (eC (.int 10)) (eC (.int 1))) (eVar 1)) [1] [.val (dl S), .un] = .ok (.own (.lst (S.reverse.map fun n => PyData.int (11 - n)))) [.val (dl S), .un] :=
    lc1a PyData.int (fun n => PyData.int (11 - n)) S.reverse (by simp [revR, ap_bnd]) (by simp; omega) (by simp) rfl fun n hn => ⟨.val (.int (11 - n)), by simp, rfl⟩
  refine vOf_ok (Γ := [.val (dl S), .un]) ?_ (fun _ => nofun)
  unfold g_mirrored m_mirrored
  simp only [dl] at e ⊢
  simp [ap_fnX, retV_of (F_check_set S hS), e, mirT, Function.comp_def]
theorem moved_ok {S : List Int} (hS : S ∈ sets) (b : Int) (h1 : -9 ≤ b) (h2 : b ≤ 9) : (setB (S.map (· + b)) = true ∧ vOf (g_moved [.val (dl S), .val (.int b)]) = some (.val (dl (S.map (· + b))))) ∨ (setB (S.map (· + b)) = false ∧ eOf (g_moved [.val (dl S), .val (.int b)]) = some 0) := by
  have l1 := subs_len (sets_subs hS)
  have e : lcM (iSq (eVar 0)) (tgN 3) (M.ret true) (bin dAdd (eVar 3) (eVar 1)) [3] [.val (dl S), .val (.int b), .un, .un] = .ok (.own (.lst (S.map fun n => PyData.int (n + b)))) [.val (dl S), .val (.int b), .un, .un] :=
    lc1a PyData.int (fun n => PyData.int (n + b)) S (by simp) (by omega) (by simp) rfl fun n hn => ⟨.val (.int (n + b)), by simp, rfl⟩
  have ib := is_int_ok b (-9) 9
  rw [decide_eq_true h1, decide_eq_true h2] at ib
  have is := retV_of (is_set_any (S.map (· + b)) (by simp; omega))
  have d9 : dNeg (.int 9) = some (.val (.int (-9))) := rfl
  simp only [dl, List.map_map, Function.comp_def] at is e ⊢
  by_cases h : setB (S.map (· + b)) = true
  · refine .inl ⟨h, vOf_ok (Γ := [.val (dl S), .val (.int b), .val (dl (S.map (· + b))), .un]) ?_ (fun _ => nofun)⟩
    rw [h] at is
    unfold g_moved m_moved
    simp [ap_fnX, retV_of (F_check_set S hS), e, retV_of ib, is, d9, Function.comp_def]
  · have h : setB (S.map (· + b)) = false := Bool.eq_false_iff.mpr h
    refine .inr ⟨h, eOf_ok (Γ := [.val (dl S), .val (.int b), .val (dl (S.map (· + b))), .un]) ?_⟩
    rw [h] at is
    unfold g_moved m_moved
    simp [ap_fnX, retV_of (F_check_set S hS), e, retV_of ib, is, d9, Function.comp_def]
theorem contains_ok {S : List Int} {A : List Itm} (hS : S ∈ sets) (hA : ∀ i ∈ A, i ∈ items110) (hne : A ≠ []) (hl : A.length ≤ 300) : vOf (g_contains [.val (dl S), .val (.str (text A))]) = some (.val (.bool ((meantT A).all fun n => decide (n ∈ S)))) := by
  have hm := meant_len A
  have e : lcM (iSq (callV 1 g_set_of (aLast (sto (callV 1 g_items_in (aLast (sto (eVar 1)))))))) (tgN 2) (M.ret true) (bin dIn (eVar 2) (eVar 0)) [2] [.val (dl S), .val (.str (text A)), .un] = .ok (.own (.lst ((meantT A).map fun n => PyData.bool (decide (n ∈ S))))) [.val (dl S), .val (.str (text A)), .un] :=
    lc1a PyData.int (fun n => PyData.bool (decide (n ∈ S))) (meantT A) (by simp [retV_of (items_in_ok hA hne (by omega)), retV_of (set_of_ok hA hl)]) (by omega) (by simp) rfl fun n hn => ⟨.val (.bool (decide (n ∈ S))), by simp [in_dl], rfl⟩
  refine vOf_ok (Γ := [.val (dl S), .val (.str (text A)), .un]) ?_ (fun _ => nofun)
  have a := dAll_map (fun n => decide (n ∈ S)) (meantT A)
  unfold g_contains m_contains
  simp only [dl] at e ⊢
  simp [ap_fnX, retV_of (F_check_set S hS), retV_of (check_text_ok hA hne (by omega)), e, a]
end Rt
namespace Rt
open PySem PySem.Spec PyProof.Rows L2
/-! ### sorted, of ints -/
theorem insG_map {α β : Type} {le : β → β → Bool} {le' : α → α → Bool} (f : α → β) (h : ∀ a b, le (f a) (f b) = le' a b) (a : α) : ∀ l : List α, insG le (f a) (l.map f) = (insG le' a l).map f
  | [] => rfl
  | b :: r => by
    rw [List.map_cons, insG, insG, h]
    by_cases hb : le' a b = true
    · rw [if_pos hb, if_pos hb]; rfl
    · rw [if_neg hb, if_neg hb, insG_map f h a r]; rfl
theorem isort_map {α β : Type} {le : β → β → Bool} {le' : α → α → Bool} (f : α → β) (h : ∀ a b, le (f a) (f b) = le' a b) : ∀ l : List α, isort le (l.map f) = (isort le' l).map f
  | [] => rfl
  | a :: l => by
    have : isort le ((a :: l).map f) = insG le (f a) (isort le (l.map f)) := rfl
    rw [this, isort_map f h l, insG_map f h]
    rfl
def intLe (a b : Int) : Bool := decide (a ≤ b)
theorem dataLe_ints (a b : Int) : PySem.W.dataLe false id (PyData.int a) (PyData.int b) = intLe a b := by
  have : PySem.W.dataLe false id (PyData.int a) (PyData.int b) = !PySem.W.dataLt (.int b) (.int a) := rfl
  rw [this, PySem.W.dataLt_int]
  unfold intLe
  by_cases h : a ≤ b
  · rw [decide_eq_true h, decide_eq_false (by omega)]; rfl
  · rw [decide_eq_false h, decide_eq_true (by omega)]; rfl
theorem sortB_ints {ns : List Int} (hl : ns.length ≤ 1000000) : sortB (ns.map PyData.int) = true := by
  unfold sortB alikeB
  simp only [Bool.and_eq_true, Bool.or_eq_true, List.all_eq_true, List.mem_map, decide_eq_true_eq, List.length_map]
  refine ⟨⟨⟨?_, .inr ?_⟩, ?_⟩, hl⟩
  · rintro _ ⟨a, _, rfl⟩ _ ⟨b, _, rfl⟩
    simp only [PySem.W.alike]
  · rintro _ ⟨a, _, rfl⟩; rfl
  · rintro _ ⟨a, _, rfl⟩; simp [PyData.depth]
theorem sorted_ints {ns : List Int} (hl : ns.length ≤ 1000000) : dSorted [.list (ns.map PyData.int)] = some (.own (.lst ((isort intLe ns).map PyData.int))) := by
  simp only [dSorted, sortB_ints hl, if_true]
  unfold srtL
  rw [isort_map PyData.int dataLe_ints]
/-! ### mirrored sets -/
theorem F_mir : (sets.all fun S => decide (isort intLe (S.map fun n => 11 - n) = mirT S) && (decide (ten.filter (fun n => decide (n ∈ mirT S)) = mirT S) && decide (mirT (mirT S) = S))) = true := by decide +kernel
theorem mir_sort {S : List Int} (h : S ∈ sets) : isort intLe (S.map fun n => 11 - n) = mirT S := by
  have := List.all_eq_true.mp F_mir S h
  simp only [Bool.and_eq_true, decide_eq_true_eq] at this
  exact this.1
theorem mir_mir {S : List Int} (h : S ∈ sets) : mirT (mirT S) = S := by
  have := List.all_eq_true.mp F_mir S h
  simp only [Bool.and_eq_true, decide_eq_true_eq] at this
  exact this.2.2
theorem mir_sets {S : List Int} (h : S ∈ sets) : mirT S ∈ sets := by
  have := List.all_eq_true.mp F_mir S h
  simp only [Bool.and_eq_true, decide_eq_true_eq] at this
  refine mem_sets ?_ (by simpa [mirT] using sets_ne h)
  rw [← this.2.1]
  exact subs_filter _ ten
/-! ### sums -/
theorem mem_both {S T : List Int} (hS : S ∈ subsL ten) (hT : T ∈ subsL ten) {n : Int} : n ∈ bothT S T ↔ n ∈ S ∨ n ∈ T := by
  unfold bothT
  simp only [List.mem_filter, Bool.or_eq_true, decide_eq_true_eq]
  exact ⟨fun h => h.2, fun h => ⟨h.elim (subs_ten hS n) (subs_ten hT n), h⟩⟩
theorem both_subs (S T : List Int) : bothT S T ∈ subsL ten := subs_filter _ ten
theorem both_sets {S T : List Int} (hS : S ∈ sets) (hT : T ∈ sets) : bothT S T ∈ sets := by
  refine mem_sets (both_subs S T) fun z => ?_
  obtain ⟨n, r, e⟩ := List.exists_cons_of_ne_nil (sets_ne hS)
  have : n ∈ bothT S T := (mem_both (sets_subs hS) (sets_subs hT)).mpr (.inl (by rw [e]; simp))
  rw [z] at this
  cases this
theorem set_ext {S T : List Int} (hS : S ∈ subsL ten) (hT : T ∈ subsL ten) (h : ∀ n ∈ ten, n ∈ S ↔ n ∈ T) : S = T := by
  rw [subs_filter_eq ten_nodup hS, subs_filter_eq ten_nodup hT]
  apply List.filter_congr
  intro n hn
  have := h n hn
  by_cases h1 : n ∈ T <;> simp [h1, this]
theorem meant_app (A B : List Itm) : meantT (A ++ B) = bothT (meantT A) (meantT B) := by
  refine set_ext (meant_subs _) (both_subs _ _) fun n hn => ?_
  rw [mem_both (meant_subs A) (meant_subs B), mem_meant, mem_meant, mem_meant]
  unfold flat
  rw [List.flatMap_append, List.mem_append]
theorem in_sets {S T : List Int} (hS : S ∈ sets) (h : inT S T ≠ []) : inT S T ∈ sets := mem_sets (filter_subs _ (sets_subs hS)) h
theorem out_sets {S T : List Int} (hS : S ∈ sets) (h : outT S T ≠ []) : outT S T ∈ sets := mem_sets (filter_subs _ (sets_subs hS)) h
theorem ten_subs : ten ∈ subsL ten := by
  have := subs_filter (fun _ => true) ten
  rwa [List.filter_eq_self.mpr fun _ _ => rfl] at this
theorem ten_sets : ten ∈ sets := mem_sets ten_subs (by decide)
theorem F_bnd : (sets.all fun S => S.all fun n => decide (loT S ≤ n) && decide (n ≤ hiT S)) = true := by decide +kernel
theorem F_row : (sets.all fun S => rowT S) = true := by decide +kernel
theorem bnd_set {S : List Int} (h : S ∈ sets) : ∀ n ∈ S, loT S ≤ n ∧ n ≤ hiT S := fun n hn => by
  have := List.all_eq_true.mp (List.all_eq_true.mp F_bnd S h) n hn
  simpa using this
theorem lo_mem {S : List Int} (h : S ≠ []) : loT S ∈ S := by
  cases S with
  | nil => exact absurd rfl h
  | cons a r => simp [loT]
theorem hi_mem {S : List Int} (h : S ≠ []) : hiT S ∈ S := by
  unfold hiT
  rw [List.getLastD_eq_getLast?, List.getLast?_eq_some_getLast h]
  exact List.getLast_mem h
theorem row_add (b : Int) : ∀ S : List Int, rowT (S.map (· + b)) = rowT S
  | [] => rfl
  | [_] => rfl
  | x :: y :: r => by
    have := row_add b (y :: r)
    simp only [List.map_cons] at this ⊢
    rw [rowT, rowT, this]
    congr 1
    by_cases h : x < y
    · rw [decide_eq_true h, decide_eq_true (by omega)]
    · rw [decide_eq_false h, decide_eq_false (by omega)]
theorem setB_add {S : List Int} (h : S ∈ sets) (b : Int) : setB (S.map (· + b)) = (decide (1 ≤ loT S + b) && decide (hiT S + b ≤ 10)) := by
  have hr := List.all_eq_true.mp F_row S h
  have he : (S.map (· + b)).isEmpty = false := by
    cases S with
    | nil => exact absurd rfl (sets_ne h)
    | cons a r => rfl
  unfold setB
  rw [row_add, hr, he, Bool.and_true, Bool.not_false, Bool.true_and, List.all_map]
  by_cases hb : 1 ≤ loT S + b ∧ hiT S + b ≤ 10
  · rw [decide_eq_true hb.1, decide_eq_true hb.2, Bool.and_self, List.all_eq_true]
    intro n hn
    have := bnd_set h n hn
    simp only [Function.comp_apply, Bool.and_eq_true, decide_eq_true_eq]
    omega
  · have h0 : (decide (1 ≤ loT S + b) && decide (hiT S + b ≤ 10)) = false := by
      rw [Bool.eq_false_iff]
      intro z
      simp only [Bool.and_eq_true, decide_eq_true_eq] at z
      exact hb z
    rw [h0, Bool.eq_false_iff]
    intro z
    rw [List.all_eq_true] at z
    have z1 := z _ (lo_mem (sets_ne h))
    have z2 := z _ (hi_mem (sets_ne h))
    simp only [Function.comp_apply, Bool.and_eq_true, decide_eq_true_eq] at z1 z2
    exact hb ⟨z1.1, z2.2⟩
/-- ",".join([str(..) for one in S]) -/
theorem join_strs' {Γ : En} {i v : Nat} {S : List Int} {f : M R} (h : Int → Int) (hl : S.length ≤ 100) (hh : ∀ n ∈ S, h n ∈ ten) (hi : Γ[i]? = some (.val (dl S))) (hv : Γ[v]? = some .un) (hf : ∀ n ∈ S, f (Γ.set v (.val (.int n))) = .ok (.val (.int (h n))) (Γ.set v (.val (.int n)))) :
    met1 dJoin (eC (.str ",")) (lcM (iSq (eVar i)) (tgN v) (M.ret true) (callD dStr (aLast f)) [v]) Γ = .ok (.val (.str (text (oneT (S.map h))))) Γ := by
  have hvl : v < Γ.length := (List.getElem?_eq_some_iff.mp hv).1
  have e := lc1a (v := v) (f := callD dStr (aLast f)) (Γ := Γ) (Γ1 := Γ) (it := iSq (eVar i)) PyData.int (fun n => .str (wd (one1 (h n)))) S (by simp [hi]) (by omega) hvl (by rw [hv, bkS_un, set_un hv]) fun n hn => by
    exact ⟨.val (.str (wd (one1 (h n)))), by simp [hf n hn, (F_one _ (hh n hn)).2.1], rfl⟩
  have h110 : ∀ i ∈ oneT (S.map h), i ∈ items110 := fun i hi => by
    obtain ⟨m, hm, rfl⟩ := List.mem_map.mp hi
    obtain ⟨n, hn, rfl⟩ := List.mem_map.mp hm
    exact (F_one _ (hh n hn)).1
  have j := join_words h110 (by simp [oneT]; omega)
  unfold comma oneT at j
  rw [List.map_map, List.map_map, List.map_map] at j
  have hc : (S.map fun n => PyData.str (wd (one1 (h n)))) = S.map (((PyData.str ∘ wd) ∘ one1) ∘ h) := rfl
  rw [hc] at e
  have j' : (dJoin (.str ",") (.list (S.map (((PyData.str ∘ wd) ∘ one1) ∘ h)))) = some (.val (.str (text (oneT (S.map h))))) := by
    refine Eq.trans ?_ (j.trans ?_)
    · rfl
    · unfold oneT; rw [List.map_map]
  rw [ap_met1]
  simp only [ap_eC, and_ok, ap_holdV]
  have : rdD Γ (.val (.str ",")) = some (.str ",") := rfl
  rw [this, mt1_str, e]
  simp [j']
/-! ### statement by statement -/
theorem sq {a b : M Fl} {Γ Γ1 Γ2 : En} {r : Fl} (h1 : a Γ = .ok .nx Γ1) (h2 : b Γ1 = .ok r Γ2) : sSeq a b Γ = .ok r Γ2 := by
  rw [ap_sSeq, h1, and_ok]
  exact h2
theorem asg_v {i : Nat} {f : M R} {Γ Γ1 : En} {r : R} {d : D} (h1 : f Γ = .ok r Γ1) (h2 : stD r Γ1 = .ok d Γ1) (hi : i < Γ1.length) : sAsg i (sto f) Γ = .ok .nx (Γ1.set i (.val d)) := by
  rw [ap_sAsg, ap_sto, h1, and_ok, ap_stR, h2]
  simp only [and_ok]
  unfold asgR
  rw [if_pos hi]
  rfl
theorem at0 {α : Type} (x : α) (r : List α) : atI (x :: r) 0 = some x := at_nat (xs := x :: r) (k := 0) (by simp)
theorem at_end {α : Type} (xs : List α) : atI xs (-1) = xs.getLast? := by
  cases xs with
  | nil => rfl
  | cons x r =>
    have e : ixN (x :: r).length (-1) = some r.length := by
      unfold ixN
      rw [if_neg (by omega), if_pos (by rw [List.length_cons]; omega)]
      rw [List.length_cons]
      congr 1
      omega
    unfold atI
    rw [e]
    simp [List.getLast?_eq_getElem?]
theorem for3 {tg : Tg} {b : M Fl} {d : D} {ds : List D} {Γ Γ1 Γ2 Γ3 : En} {r : Fl} (h1 : tg d Γ = some Γ1) (h2 : b Γ1 = .ok .nx Γ2) (h3 : forL tg b ds Γ2 = .ok r Γ3) : forL tg b (d :: ds) Γ = .ok r Γ3 := by
  rw [for_cons, h1, tgO_some, h2, and_ok, flF_nx, h3]
theorem isnot_tt : dIsNot (.bool true) (.bool true) = some (.val (.bool false)) := rfl
theorem isnot_nn : dIsNot .none .none = some (.val (.bool false)) := rfl
theorem ne_nn : dNe (.list []) (.list []) = some (.val (.bool false)) := ne_dl [] []
theorem text_ok' {A : List Itm} (hA : ∀ i ∈ A, i ∈ items110) (hne : A ≠ []) (hl : A.length ≤ 1000) : vOf (g_is_text [.val (.str (text A))]) = some (.val (.bool true)) ∧ vOf (g_first_fault [.val (.str (text A))]) = some (.val .none) := by
  have h1 := text_len hA
  have ho := text_ov hA
  have hp : parts (text A) = A.map wd := split_text hA hne
  have hk : okT (text A) = true := by
    unfold okT
    rw [hp, List.all_eq_true]
    intro p hp
    obtain ⟨i, hi, rfl⟩ := List.mem_map.mp hp
    cases hn : itemT (wd i) with
    | some j => rfl
    | none =>
      have := List.find?_eq_none.mp hn i (hA i hi)
      simp at this
  refine ⟨by rw [is_text_any (by omega) ho, hk], ?_⟩
  rw [first_fault_any (by omega) ho, (bad0_none (parts (text A)) 0).mpr hk]
  rfl
theorem lrg_ten (Γ : En) : bin (fun x y => (rg2 [x, y]).bind fun l => if l.length ≤ 1000000 then some (.own (.lst l)) else none) (eC (.int 1)) (eC (.int 11)) Γ = .ok (.own (.lst (ten.map PyData.int))) Γ := by
  have e : ((rg2 [.int 1, .int 11]).bind fun l => if l.length ≤ 1000000 then some (R.own (.lst l)) else none) = some (.own (.lst (ten.map PyData.int))) := by rw [rg_ten]; rfl
  rw [ap_bin]
  simp only [ap_eC, and_ok, ap_holdV]
  unfold op2 rdD
  simp only [e]
theorem sh_none : SeqAt.shaped (.str "none") = true := by decide +kernel
theorem ne_list_str (S : List Int) {z : Str} (h2 : SeqAt.shaped (.str z) = true) : dNe (dl S) (.str z) = some (.val (.bool true)) := by
  have h1 : SeqAt.shaped (dl S) = true := Enc.int.list.shaped (by decide) S
  unfold dNe dEqv
  simp only [h1, h2, Bool.and_self, if_true]
  simp [PyData.eqv]
end Rt
namespace Rt
open PySem PySem.Spec PyProof.Rows L2
/-! ### sorted, of items -/
def itLe (a b : Itm) : Bool := decide (a.1 < b.1) || (decide (a.1 = b.1) && (decide (a.2.1 < b.2.1) || (decide (a.2.1 = b.2.1) && decide (a.2.2 ≤ b.2.2))))
theorem alike_int (a b : Int) : PySem.W.alike (.int a) (.int b) = true := by simp only [PySem.W.alike]
theorem dataLt_itm (a b : Itm) : PySem.W.dataLt (iD a) (iD b) = !itLe b a := by
  obtain ⟨x, y, z⟩ := a
  obtain ⟨x', y', z'⟩ := b
  unfold iD
  rw [PySem.W.dataLt_tuple, PySem.W.dataLt_cons (alike_int x x')]
  simp only [PyData.eqv, beq_iff_eq]
  unfold itLe
  simp only
  by_cases h1 : x = x'
  · subst h1
    rw [if_pos rfl, PySem.W.dataLt_cons (alike_int y y')]
    simp only [PyData.eqv, beq_iff_eq]
    by_cases h2 : y = y'
    · subst h2
      rw [if_pos rfl, PySem.W.dataLt_cons (alike_int z z')]
      simp only [PyData.eqv, beq_iff_eq]
      by_cases h3 : z = z'
      · subst h3
        rw [if_pos rfl]
        simp
        exact lex_irrefl _
      · rw [if_neg h3, PySem.W.dataLt_int]
        simp
        by_cases h4 : z < z'
        · simp [h4]
        · simp [h4]; omega
    · rw [if_neg h2, PySem.W.dataLt_int]
      by_cases h4 : y < y'
      · have : ¬ y' < y := by omega
        have h5 : ¬ y' = y := by omega
        simp [h4, this, h5]
      · have : y' < y := by omega
        simp [h4, this]
  · rw [if_neg h1, PySem.W.dataLt_int]
    by_cases h4 : x < x'
    · have : ¬ x' < x := by omega
      have h5 : ¬ x' = x := by omega
      simp [h4, this, h5]
    · have : x' < x := by omega
      simp [h4, this]
theorem dataLe_itm (a b : Itm) : PySem.W.dataLe false id (iD a) (iD b) = itLe a b := by
  have : PySem.W.dataLe false id (iD a) (iD b) = !PySem.W.dataLt (iD b) (iD a) := rfl
  rw [this, dataLt_itm, Bool.not_not]
theorem alike_itm (a b : Itm) : PySem.W.alike (iD a) (iD b) = true := by
  simp [iD, PySem.W.alike, PySem.W.alikeAll]
theorem sortB_itms {ns : List Itm} (hl : ns.length ≤ 1000000) : sortB (ns.map iD) = true := by
  unfold sortB alikeB
  simp only [Bool.and_eq_true, Bool.or_eq_true, List.all_eq_true, List.mem_map, decide_eq_true_eq, List.length_map]
  refine ⟨⟨⟨?_, .inl ?_⟩, ?_⟩, hl⟩
  · rintro _ ⟨a, _, rfl⟩ _ ⟨b, _, rfl⟩
    exact alike_itm a b
  · rintro _ ⟨a, _, rfl⟩; rfl
  · rintro _ ⟨a, _, rfl⟩
    have := Enc.itm.dep a
    omega
theorem sorted_itms {ns : List Itm} (hl : ns.length ≤ 1000000) : dSorted [.list (ns.map iD)] = some (.own (.lst ((isort itLe ns).map iD))) := by
  simp only [dSorted, sortB_itms hl, if_true]
  unfold srtL
  rw [isort_map iD dataLe_itm]
/-! ### items within a set -/
def chT (S : List Int) (f st : Int) : Nat → Int → List Itm
  | 0, _ => []
  | n + 1, last => if decide (last ∈ S) = true then (f, last, st) :: chT S f st n (last + st) else []
def rowOf (S : List Int) (f : Int) (acc : List Itm) (T : List Int) : List Itm := T.foldl (fun acc s => if decide (f < s) = true then acc ++ chT S f (s - f) 40 s else acc) acc
def loopT (S : List Int) : List Itm := S.foldl (fun acc f => rowOf S f (acc ++ [(f, f, 1)]) S) []
def withinT (S : List Int) : List Itm := items110.filter fun i => (nums i).all fun n => decide (n ∈ S)
theorem F_within : ((subsL ten).all fun S => decide (isort itLe (loopT S) = withinT S)) = true := by decide +kernel
theorem within_sort {S : List Int} (h : S ∈ subsL ten) : isort itLe (loopT S) = withinT S := of_decide_eq_true (List.all_eq_true.mp F_within S h)
/-- a bound for lengths -/
theorem chT_len (S : List Int) (f st : Int) : ∀ (n : Nat) (l : Int), (chT S f st n l).length ≤ n
  | 0, _ => Nat.le_refl _
  | n + 1, l => by
    unfold chT
    split
    · have := chT_len S f st n (l + st)
      simp; omega
    · simp
/-- the while loop -/
abbrev whT : M Bool := tst (bin dIn (eVar 4) (eVar 0))
abbrev whB : M Fl := sSeq (sDrop (appM 1 (mkTup (aCons (sto (eVar 2)) (aCons (sto (eVar 4)) (aLast (sto (bin dSub (eVar 3) (eVar 2))))))))) (augM 4 (bin dSub (eVar 3) (eVar 2)))
def whF (t : M Bool) (b : M Fl) (n : Nat) : Fl → M Fl
  | .nx => sWhile t b n
  | .cnt => sWhile t b n
  | .brk => M.ret .nx
  | .ret r => M.ret (.ret r)
theorem wh_cons {t : M Bool} {b : M Fl} {n : Nat} {Γ : En} : sWhile t b (n + 1) Γ = (t Γ).and fun x Γ => if x = true then (b Γ).and (whF t b n) else .ok .nx Γ := by
  rw [sWhile, ap_bnd]
  cases t Γ with
  | ok x Γ1 =>
    rw [and_ok, and_ok]
    by_cases h : x = true
    · rw [if_pos h, if_pos h, ap_bnd]
      cases b Γ1 with
      | ok fl Γ2 =>
        rw [and_ok, and_ok]
        cases fl <;> rfl
      | exc c Γ2 => rfl
      | bad => rfl
    · rw [if_neg h, if_neg h]; rfl
  | exc c Γ1 => rfl
  | bad => rfl
theorem wh_step {t : M Bool} {b : M Fl} {n : Nat} {Γ Γ1 : En} (h1 : t Γ = .ok true Γ) (h2 : b Γ = .ok .nx Γ1) : sWhile t b (n + 1) Γ = sWhile t b n Γ1 := by
  rw [wh_cons, h1, and_ok, if_pos rfl, h2, and_ok]
  rfl
theorem wh_stop {t : M Bool} {b : M Fl} {n : Nat} {Γ : En} (h1 : t Γ = .ok false Γ) : sWhile t b (n + 1) Γ = .ok .nx Γ := by
  rw [wh_cons, h1, and_ok, if_neg Bool.false_ne_true]
theorem ten_le {n : Int} (h : n ∈ ten) : 1 ≤ n ∧ n ≤ 10 := by
  simp [ten] at h
  omega
theorem while_ok {S : List Int} (hS : ∀ n ∈ S, n ∈ ten) (f s : Int) (hfs : f < s) : ∀ (n : Nat) (l : Int) (acc : List Itm), acc.length + n < 1000000 → 11 ≤ l + n →
    ∃ l', sWhile whT whB (n + 1) [.val (dl S), .own none (.lst (acc.map iD)), .val (.int f), .val (.int s), .val (.int l)] =
      .ok .nx [.val (dl S), .own none (.lst ((acc ++ chT S f (s - f) (n + 1) l).map iD)), .val (.int f), .val (.int s), .val (.int l')]
  | n, l, acc, ha, hl => by
    by_cases hm : l ∈ S
    · have := ten_le (hS l hm)
      cases n with
      | zero => omega
      | succ n =>
        obtain ⟨l', e⟩ := while_ok hS f s hfs n (l + (s - f)) (acc ++ [(f, l, s - f)]) (by simp; omega) (by omega)
        refine ⟨l', ?_⟩
        rw [wh_step (Γ1 := [.val (dl S), .own none (.lst ((acc ++ [(f, l, s - f)]).map iD)), .val (.int f), .val (.int s), .val (.int (l + (s - f)))]) (by simp [in_dl, hm]) (by
          have : acc.length < 1000000 := by omega
          simp [this, iD]), e]
        have hc : chT S f (s - f) (n + 1 + 1) l = (f, l, s - f) :: chT S f (s - f) (n + 1) (l + (s - f)) := by
          rw [chT, if_pos (decide_eq_true hm)]
        rw [hc, List.append_assoc]
        rfl
    · refine ⟨l, ?_⟩
      rw [wh_stop (by simp [in_dl, hm])]
      have hc : chT S f (s - f) (n + 1) l = [] := by
        rw [chT, if_neg (by simpa using hm)]
      rw [hc, List.append_nil]
theorem row_len (S : List Int) (f : Int) : ∀ (T : List Int) (acc : List Itm), (rowOf S f acc T).length ≤ acc.length + 40 * T.length
  | [], acc => by simp [rowOf]
  | s :: T, acc => by
    have e : rowOf S f acc (s :: T) = rowOf S f (if decide (f < s) = true then acc ++ chT S f (s - f) 40 s else acc) T := rfl
    have := chT_len S f (s - f) 40 s
    rw [e]
    refine Nat.le_trans (row_len S f T _) ?_
    split
    · rw [List.length_append, List.length_cons]; omega
    · rw [List.length_cons]; omega
theorem rowL {S : List Int} (hS : ∀ n ∈ S, n ∈ ten) (f : Int) : ∀ (T : List Int) (acc : List Itm) (z3 z4 : Sl), (∀ n ∈ T, n ∈ ten) → acc.length + 40 * T.length < 900000 →
    ∃ z3' z4', forL (tgN 3) (sIf (tst (bin dGt (eVar 3) (eVar 2))) (sSeq (sAsg 4 (eVar 3)) (sWhile whT whB 40)) (sNx)) (T.map PyData.int) [.val (dl S), .own none (.lst (acc.map iD)), .val (.int f), z3, z4] =
      .ok .nx [.val (dl S), .own none (.lst ((rowOf S f acc T).map iD)), .val (.int f), z3', z4']
  | [], acc, z3, z4, _, _ => ⟨z3, z4, by simp [rowOf]⟩
  | s :: T, acc, z3, z4, hT, ha => by
    have ha : acc.length + 40 * (T.length + 1) < 900000 := by simpa using ha
    have hs := ten_le (hT s (by simp))
    have e : rowOf S f acc (s :: T) = rowOf S f (if decide (f < s) = true then acc ++ chT S f (s - f) 40 s else acc) T := rfl
    rw [e]
    by_cases h : f < s
    · obtain ⟨l', w⟩ := while_ok hS f s h 39 s acc (by omega) (by omega)
      have hl := chT_len S f (s - f) 40 s
      obtain ⟨a, b, q⟩ := rowL hS f T (acc ++ chT S f (s - f) 40 s) (.val (.int s)) (.val (.int l')) (fun n hn => hT n (by simp [hn])) (by rw [List.length_append]; omega)
      refine ⟨a, b, ?_⟩
      rw [if_pos (decide_eq_true h), ← q]
      rw [List.map_cons, for_cons, ap_tgN, if_pos (by simp), tgO_some]
      have : sIf (tst (bin dGt (eVar 3) (eVar 2))) (sSeq (sAsg 4 (eVar 3)) (sWhile whT whB 40)) (sNx) [.val (dl S), .own none (.lst (acc.map iD)), .val (.int f), .val (.int s), z4] = .ok .nx [.val (dl S), .own none (.lst ((acc ++ chT S f (s - f) 40 s).map iD)), .val (.int f), .val (.int s), .val (.int l')] := by
        simp only [ap_sIf]
        have t : tst (bin dGt (eVar 3) (eVar 2)) [.val (dl S), .own none (.lst (acc.map iD)), .val (.int f), .val (.int s), z4] = .ok true [.val (dl S), .own none (.lst (acc.map iD)), .val (.int f), .val (.int s), z4] := by simp [h]
        rw [t, and_ok, if_pos rfl]
        exact sq (Γ1 := [.val (dl S), .own none (.lst (acc.map iD)), .val (.int f), .val (.int s), .val (.int s)]) (by simp) w
      show ((sIf (tst (bin dGt (eVar 3) (eVar 2))) (sSeq (sAsg 4 (eVar 3)) (sWhile whT whB 40)) (sNx) [.val (dl S), .own none (.lst (acc.map iD)), .val (.int f), .val (.int s), z4]).and _) = _
      rw [this, and_ok, flF_nx]
    · obtain ⟨a, b, q⟩ := rowL hS f T acc (.val (.int s)) z4 (fun n hn => hT n (by simp [hn])) (by omega)
      refine ⟨a, b, ?_⟩
      rw [if_neg (by simpa using h), ← q, List.map_cons, for_cons]
      simp [h]
theorem loopL {S : List Int} (hS : ∀ n ∈ S, n ∈ ten) (hl : S.length ≤ 10) : ∀ (T : List Int) (acc : List Itm) (z2 z3 z4 : Sl), (∀ n ∈ T, n ∈ ten) → acc.length + 401 * T.length < 900000 →
    ∃ z2' z3' z4', forL (tgN 2) (sSeq (sDrop (appM 1 (mkTup (aCons (sto (eVar 2)) (aCons (sto (eVar 2)) (aLast (sto (eC (.int 1))))))))) (sFor (iSq (eVar 0)) (tgN 3) (sIf (tst (bin dGt (eVar 3) (eVar 2))) (sSeq (sAsg 4 (eVar 3)) (sWhile whT whB 40)) (sNx)))) (T.map PyData.int) [.val (dl S), .own none (.lst (acc.map iD)), z2, z3, z4] =
      .ok .nx [.val (dl S), .own none (.lst ((T.foldl (fun acc f => rowOf S f (acc ++ [(f, f, 1)]) S) acc).map iD)), z2', z3', z4']
  | [], acc, z2, z3, z4, _, _ => ⟨z2, z3, z4, by simp⟩
  | f :: T, acc, z2, z3, z4, hT, ha => by
    have ha : acc.length + 401 * (T.length + 1) < 900000 := by simpa using ha
    obtain ⟨a, b, q⟩ := rowL hS f S (acc ++ [(f, f, 1)]) z3 z4 hS (by rw [List.length_append]; simp; omega)
    have hr := row_len S f S (acc ++ [(f, f, 1)])
    obtain ⟨c, d, e, q2⟩ := loopL hS hl T (rowOf S f (acc ++ [(f, f, 1)]) S) (.val (.int f)) a b (fun n hn => hT n (by simp [hn])) (by rw [List.length_append] at hr; simp at hr; omega)
    refine ⟨c, d, e, ?_⟩
    rw [List.foldl_cons, ← q2, List.map_cons, for_cons, ap_tgN, if_pos (by simp), tgO_some]
    have h1 : sDrop (appM 1 (mkTup (aCons (sto (eVar 2)) (aCons (sto (eVar 2)) (aLast (sto (eC (.int 1)))))))) [.val (dl S), .own none (.lst (acc.map iD)), .val (.int f), z3, z4] = .ok .nx [.val (dl S), .own none (.lst ((acc ++ [(f, f, 1)]).map iD)), .val (.int f), z3, z4] := by
      have : acc.length < 1000000 := by omega
      simp [this, iD]
    have h2 : sFor (iSq (eVar 0)) (tgN 3) (sIf (tst (bin dGt (eVar 3) (eVar 2))) (sSeq (sAsg 4 (eVar 3)) (sWhile whT whB 40)) (sNx)) [.val (dl S), .own none (.lst ((acc ++ [(f, f, 1)]).map iD)), .val (.int f), z3, z4] = .ok .nx [.val (dl S), .own none (.lst ((rowOf S f (acc ++ [(f, f, 1)]) S).map iD)), .val (.int f), a, b] := by
      rw [ap_sFor]
      have : iSq (eVar 0) [.val (dl S), .own none (.lst ((acc ++ [(f, f, 1)]).map iD)), .val (.int f), z3, z4] = .ok (S.map PyData.int) [.val (dl S), .own none (.lst ((acc ++ [(f, f, 1)]).map iD)), .val (.int f), z3, z4] := by simp
      rw [this, and_ok, q]
    show ((sSeq (sDrop (appM 1 (mkTup (aCons (sto (eVar 2)) (aCons (sto (eVar 2)) (aLast (sto (eC (.int 1))))))))) (sFor (iSq (eVar 0)) (tgN 3) (sIf (tst (bin dGt (eVar 3) (eVar 2))) (sSeq (sAsg 4 (eVar 3)) (sWhile whT whB 40)) (sNx))) [.val (dl S), .own none (.lst (acc.map iD)), .val (.int f), z3, z4]).and _) = _
    rw [sq h1 h2, and_ok, flF_nx]
theorem loop_len {S : List Int} (hl : S.length ≤ 10) : ∀ (T : List Int) (acc : List Itm), (T.foldl (fun acc f => rowOf S f (acc ++ [(f, f, 1)]) S) acc).length ≤ acc.length + 401 * T.length
  | [], acc => by simp
  | f :: T, acc => by
    have h1 := loop_len hl T (rowOf S f (acc ++ [(f, f, 1)]) S)
    have h2 := row_len S f S (acc ++ [(f, f, 1)])
    rw [List.foldl_cons, List.length_cons]
    rw [List.length_append] at h2
    simp at h2
    omega
theorem within_of_ok {S : List Int} (h : S ∈ subsL ten) : vOf (g_within_of [.val (dl S)]) = some (.own (.lst ((withinT S).map iD))) := by
  have hS := subs_ten h
  have hl := subs_len h
  obtain ⟨a, b, c, q⟩ := loopL hS hl S [] .un .un .un hS (by simp; omega)
  have ll := loop_len hl S []
  have so := sorted_itms (ns := loopT S) (by unfold loopT; simp at ll; omega)
  rw [within_sort h] at so
  refine vOf_ok (Γ := [.val (dl S), .own none (.lst ((loopT S).map iD)), a, b, c]) ?_ (fun _ => nofun)
  have s0 : sAsg 1 (mkLst (aNil)) [.val (dl S), .un, .un, .un, .un] = .ok .nx [.val (dl S), .own none (.lst []), .un, .un, .un] := by simp
  have s1 : sFor (iSq (eVar 0)) (tgN 2) (sSeq (sDrop (appM 1 (mkTup (aCons (sto (eVar 2)) (aCons (sto (eVar 2)) (aLast (sto (eC (.int 1))))))))) (sFor (iSq (eVar 0)) (tgN 3) (sIf (tst (bin dGt (eVar 3) (eVar 2))) (sSeq (sAsg 4 (eVar 3)) (sWhile whT whB 40)) (sNx)))) [.val (dl S), .own none (.lst []), .un, .un, .un] = .ok .nx [.val (dl S), .own none (.lst ((loopT S).map iD)), a, b, c] := by
    rw [ap_sFor]
    have : iSq (eVar 0) [.val (dl S), .own none (.lst []), .un, .un, .un] = .ok (S.map PyData.int) [.val (dl S), .own none (.lst []), .un, .un, .un] := by simp
    rw [this, and_ok]
    exact q
  have s2 : sRet (callD dSorted (aLast (eVar 1))) [.val (dl S), .own none (.lst ((loopT S).map iD)), a, b, c] = .ok (.ret (.own (.lst ((withinT S).map iD)))) [.val (dl S), .own none (.lst ((loopT S).map iD)), a, b, c] := by
    simp [so]
  unfold g_within_of m_within_of
  rw [ap_fnP]
  have e : m_within_of ([.val (dl S)] ++ List.replicate 4 .un) = .ok (.ret (.own (.lst ((withinT S).map iD)))) [.val (dl S), .own none (.lst ((loopT S).map iD)), a, b, c] := by
    unfold m_within_of
    exact sq s0 (sq s1 s2)
  unfold m_within_of at e
  rw [e, finF_ret]
theorem items_within_ok {S : List Int} (h : S ∈ sets) : vOf (g_items_within [.val (dl S)]) = some (.own (.lst ((withinT S).map iD))) := by
  refine vOf_ok (Γ := [.val (dl S)]) ?_ (fun _ => nofun)
  unfold g_items_within m_items_within
  simp [ap_fnX, retV_of (F_check_set S h), retV_of (within_of_ok (sets_subs h))]
theorem within110 (S : List Int) : ∀ i ∈ withinT S, i ∈ items110 := fun i hi => (List.mem_filter.mp hi).1
theorem mem_within {S : List Int} {i : Itm} : i ∈ withinT S ↔ i ∈ items110 ∧ ∀ n ∈ nums i, n ∈ S := by
  unfold withinT
  simp [List.mem_filter]
theorem within_len (S : List Int) : (withinT S).length ≤ 110 := List.length_filter_le _ _
end Rt
namespace Rt
open PySem PySem.Spec PyProof.Rows L2
theorem eq_nil_itm (x : List Itm) : dEq (.list (x.map iD)) (.list []) = some (.val (.bool (decide (x = [])))) := eq_di x []
theorem ne_itm (x y : Itm) : dNe (iD x) (iD y) = some (.val (.bool (!decide (x = y)))) := Enc.itm.ne (by decide) x y
theorem eq_itm (x y : Itm) : dEq (iD x) (iD y) = some (.val (.bool (decide (x = y)))) := Enc.itm.eq (by decide) x y
theorem out_nil (A S : List Int) : decide (outT A S = []) = A.all fun n => decide (n ∈ S) := by
  unfold outT
  rw [Bool.eq_iff_iff]
  simp [List.filter_eq_nil_iff]
theorem nums_len (i : Itm) : (nums i).length ≤ 10 := List.length_filter_le _ _
theorem inside_ok (S : List Int) : vOf (g_L_inside [.val (dl S)]) = some (.own (.lst ((withinT S).map iD))) := by
  have e : lcM (iSq (callV 0 g_L_items aNil)) (tgN 1) (tst (bin dEq (lcM (iSq (callV 1 g_L_numbers (aLast (sto (eVar 1))))) (tgN 2) (tst (bin dNotIn (eVar 2) (eVar 0))) (eVar 2) [2]) (mkLst (aNil)))) (eVar 1) [1] [.val (dl S), .un, .un] = .ok (.own (.lst ((withinT S).map iD))) [.val (dl S), .un, .un] := by
    refine lc1 iD (fun i => (nums i).all fun n => decide (n ∈ S)) iD items110 (by simp [retV_of F_items]) (by simp [items110]) (by simp) rfl fun i hi => ?_
    have nl := nums_len i
    have c := lc_out (it := iSq (callV 1 g_L_numbers (aLast (sto (eVar 1))))) (Γ := [.val (dl S), .val (iD i), .un]) (b := 0) (v := 2) (S := nums i) (T := S) (by simp [retV_of (F_numbers i hi)]) rfl rfl (by omega)
    have fo : (nums i).filter (fun n => !decide (n ∈ S)) = outT (nums i) S := rfl
    rw [fo] at c
    have hn := out_nil (nums i) S
    refine ⟨?_, fun _ => ⟨.bor 1, by simp, by simp⟩⟩
    rw [← hn]
    generalize outT (nums i) S = V at c hn
    simp [c, eq_nil_int]
  refine vOf_ok (Γ := [.val (dl S), .un, .un]) ?_ (fun _ => nofun)
  unfold g_L_inside m_L_inside
  simp [ap_fnP, e]
/-- the items whose numbers are not all in another one -/
def widerT (L : List Itm) (i : Itm) : List Itm := L.filter fun j => !decide (j = i) && (nums i).all fun n => decide (n ∈ nums j)
def greatT (S : List Int) : List Itm := (withinT S).filter fun i => decide (widerT (withinT S) i = [])
theorem foldl_keep {α : Type} (p : α → Bool) (xs s : List α) : xs.foldl (fun acc x => if p x = true then acc ++ [x] else acc) s = s ++ xs.filter p := by
  have := foldl_app p id xs s
  simpa using this
theorem great_loop {L : List Itm} (hL : ∀ i ∈ L, i ∈ items110) (hl : L.length ≤ 1000) (y : Sl) : ∀ (xs acc : List Itm) (z3 z4 z5 : Sl), (∀ i ∈ xs, i ∈ items110) → acc.length + xs.length < 1000000 →
    ∃ z3' z4' z5', forL (tgN 3) (sSeq (sAsg 4 (sto (callV 1 g_numbers_of (aLast (sto (eVar 3)))))) (sSeq (sAsg 5 (sto (lcM (iSq (eVar 1)) (tgN 6) (mAnd (tst (bin dNe (eVar 6) (eVar 3))) (tst (callD dAll (aLast (lcM (iSq (eVar 4)) (tgN 7) (M.ret true) (bin dIn (eVar 7) (callV 1 g_numbers_of (aLast (sto (eVar 6))))) [7]))))) (eVar 6) [6]))) (sIf (tst (bin dEq (eVar 5) (mkLst (aNil)))) (sDrop (appM 2 (eVar 3))) (sNx)))) (xs.map iD) [y, .val (di L), .own none (.lst (acc.map iD)), z3, z4, z5, .un, .un] =
      .ok .nx [y, .val (di L), .own none (.lst ((acc ++ xs.filter fun i => decide (widerT L i = [])).map iD)), z3', z4', z5', .un, .un]
  | [], acc, z3, z4, z5, _, _ => ⟨z3, z4, z5, by simp⟩
  | i :: xs, acc, z3, z4, z5, hx, ha => by
    have ha : acc.length + (xs.length + 1) < 1000000 := by simpa using ha
    have hi := hx i (by simp)
    have nl := nums_len i
    have s1 : sAsg 4 (sto (callV 1 g_numbers_of (aLast (sto (eVar 3))))) [y, .val (di L), .own none (.lst (acc.map iD)), .val (iD i), z4, z5, .un, .un] = .ok .nx [y, .val (di L), .own none (.lst (acc.map iD)), .val (iD i), .val (dl (nums i)), z5, .un, .un] := by
      simp [retV_of (F_numbers_of i hi)]
    have c : lcM (iSq (eVar 1)) (tgN 6) (mAnd (tst (bin dNe (eVar 6) (eVar 3))) (tst (callD dAll (aLast (lcM (iSq (eVar 4)) (tgN 7) (M.ret true) (bin dIn (eVar 7) (callV 1 g_numbers_of (aLast (sto (eVar 6))))) [7]))))) (eVar 6) [6] [y, .val (di L), .own none (.lst (acc.map iD)), .val (iD i), .val (dl (nums i)), z5, .un, .un] = .ok (.own (.lst ((widerT L i).map iD))) [y, .val (di L), .own none (.lst (acc.map iD)), .val (iD i), .val (dl (nums i)), z5, .un, .un] := by
      refine lc1 iD (fun j => !decide (j = i) && (nums i).all fun n => decide (n ∈ nums j)) iD L (by simp) (by omega) (by simp) rfl fun j hj => ⟨?_, fun _ => ⟨.bor 6, by simp, by simp⟩⟩
      have hj' := hL j hj
      have cc : lcM (iSq (eVar 4)) (tgN 7) (M.ret true) (bin dIn (eVar 7) (callV 1 g_numbers_of (aLast (sto (eVar 6))))) [7] [y, .val (di L), .own none (.lst (acc.map iD)), .val (iD i), .val (dl (nums i)), z5, .val (iD j), .un] = .ok (.own (.lst ((nums i).map fun n => PyData.bool (decide (n ∈ nums j))))) [y, .val (di L), .own none (.lst (acc.map iD)), .val (iD i), .val (dl (nums i)), z5, .val (iD j), .un] :=
        lc1a PyData.int (fun n => PyData.bool (decide (n ∈ nums j))) (nums i) (by simp) (by omega) (by simp) rfl fun n hn => ⟨.val (.bool (decide (n ∈ nums j))), by simp [retV_of (F_numbers_of j hj'), in_dl], rfl⟩
      have da := dAll_map (fun n => decide (n ∈ nums j)) (nums i)
      by_cases hji : j = i
      · simp [ne_itm, hji]
      · simp only [dl, di] at cc
        simp [ne_itm, hji, cc, da]
    have s2 := asg_v (i := 5) c rfl (by simp)
    by_cases hw : widerT L i = []
    · obtain ⟨a, b, d, q⟩ := great_loop hL hl y xs (acc ++ [i]) (.val (iD i)) (.val (dl (nums i))) (.val (di (widerT L i))) (fun j hj => hx j (by simp [hj])) (by simp; omega)
      refine ⟨a, b, d, ?_⟩
      have s3 : sIf (tst (bin dEq (eVar 5) (mkLst (aNil)))) (sDrop (appM 2 (eVar 3))) (sNx) [y, .val (di L), .own none (.lst (acc.map iD)), .val (iD i), .val (dl (nums i)), .val (di (widerT L i)), .un, .un] = .ok .nx [y, .val (di L), .own none (.lst ((acc ++ [i]).map iD)), .val (iD i), .val (dl (nums i)), .val (di (widerT L i)), .un, .un] := by
        have : acc.length < 1000000 := by omega
        have hq : dEq (.list ((widerT L i).map iD)) (.list []) = some (.val (.bool true)) := by rw [eq_nil_itm, decide_eq_true hw]
        simp [hq, this]
      rw [List.map_cons, for3 (Γ1 := [y, .val (di L), .own none (.lst (acc.map iD)), .val (iD i), z4, z5, .un, .un]) rfl (sq s1 (sq s2 s3)) q]
      simp [hw]
    · obtain ⟨a, b, d, q⟩ := great_loop hL hl y xs acc (.val (iD i)) (.val (dl (nums i))) (.val (di (widerT L i))) (fun j hj => hx j (by simp [hj])) (by omega)
      refine ⟨a, b, d, ?_⟩
      have s3 : sIf (tst (bin dEq (eVar 5) (mkLst (aNil)))) (sDrop (appM 2 (eVar 3))) (sNx) [y, .val (di L), .own none (.lst (acc.map iD)), .val (iD i), .val (dl (nums i)), .val (di (widerT L i)), .un, .un] = .ok .nx [y, .val (di L), .own none (.lst (acc.map iD)), .val (iD i), .val (dl (nums i)), .val (di (widerT L i)), .un, .un] := by
        simp [eq_nil_itm, hw]
      rw [List.map_cons, for3 (Γ1 := [y, .val (di L), .own none (.lst (acc.map iD)), .val (iD i), z4, z5, .un, .un]) rfl (sq s1 (sq s2 s3)) q]
      simp [hw]
theorem greatest_of_ok {S : List Int} (h : S ∈ subsL ten) : vOf (g_greatest_of [.val (dl S)]) = some (.own (.lst ((greatT S).map iD))) := by
  have wl := within_len S
  obtain ⟨a, b, c, q⟩ := great_loop (within110 S) (by omega) (.val (dl S)) (withinT S) [] .un .un .un (within110 S) (by simp; omega)
  have e : m_greatest_of ([.val (dl S)] ++ List.replicate 7 .un) = .ok (.ret (.own (.lst ((greatT S).map iD)))) [.val (dl S), .val (di (withinT S)), .un, a, b, c, .un, .un] := by
    have s0 : sAsg 1 (sto (callV 1 g_within_of (aLast (sto (eVar 0))))) [.val (dl S), .un, .un, .un, .un, .un, .un, .un] = .ok .nx [.val (dl S), .val (di (withinT S)), .un, .un, .un, .un, .un, .un] := by simp [retV_of (within_of_ok h)]
    have s1 : sAsg 2 (mkLst (aNil)) [.val (dl S), .val (di (withinT S)), .un, .un, .un, .un, .un, .un] = .ok .nx [.val (dl S), .val (di (withinT S)), .own none (.lst []), .un, .un, .un, .un, .un] := by simp
    unfold m_greatest_of
    refine sq s0 (sq s1 (sq (Γ1 := [.val (dl S), .val (di (withinT S)), .own none (.lst ((greatT S).map iD)), a, b, c, .un, .un]) ?_ ?_))
    · rw [ap_sFor]
      have : iSq (eVar 1) [.val (dl S), .val (di (withinT S)), .own none (.lst []), .un, .un, .un, .un, .un] = .ok ((withinT S).map iD) [.val (dl S), .val (di (withinT S)), .own none (.lst []), .un, .un, .un, .un, .un] := by simp
      rw [this, and_ok]
      exact q
    · simp
  refine vOf_ok (Γ := [.val (dl S), .val (di (withinT S)), .un, a, b, c, .un, .un]) ?_ (fun _ => nofun)
  unfold g_greatest_of
  rw [ap_fnP, e, finF_ret]
theorem greatest_items_ok {S : List Int} (h : S ∈ sets) : vOf (g_greatest_items [.val (dl S)]) = some (.own (.lst ((greatT S).map iD))) := by
  refine vOf_ok (Γ := [.val (dl S)]) ?_ (fun _ => nofun)
  unfold g_greatest_items m_greatest_items
  simp [ap_fnX, retV_of (F_check_set S h), retV_of (greatest_of_ok (sets_subs h))]
end Rt
namespace Rt
open PySem PySem.Spec PyProof.Rows L2
/-! ### items -/
theorem F_trip : (items110.all fun i => nums11.contains i.1 && (nums11.contains i.2.1 && nums11.contains i.2.2)) = true := by decide +kernel
theorem trip110 {i : Itm} (h : i ∈ items110) : i ∈ trip := by
  have := List.all_eq_true.mp F_trip i h
  simp only [Bool.and_eq_true, List.contains_iff_mem] at this
  exact mem_trip this.1 this.2.1 this.2.2
theorem is_item_ok {i : Itm} (h : i ∈ items110) : vOf (g_is_item [.val (iD i)]) = some (.val (.bool true)) := by
  have := F_is_item i (trip110 h)
  rwa [List.contains_iff_mem.mpr h] at this
theorem check_item_ok {i : Itm} (h : i ∈ items110) : vOf (g_check_item [.val (iD i)]) = some (.val .none) := by
  refine vOf_ok (Γ := [.val (iD i)]) ?_ (fun _ => nofun)
  unfold g_check_item m_check_item
  simp [ap_fnX, retV_of (is_item_ok h)]
theorem item_numbers_ok {i : Itm} (h : i ∈ items110) : vOf (g_item_numbers [.val (iD i)]) = some (.own (.lst ((nums i).map PyData.int))) := by
  refine vOf_ok (Γ := [.val (iD i)]) ?_ (fun _ => nofun)
  unfold g_item_numbers m_item_numbers
  simp [ap_fnX, retV_of (check_item_ok h), retV_of (F_numbers_of i h)]
theorem item_text_ok {i : Itm} (h : i ∈ items110) : vOf (g_item_text [.val (iD i)]) = some (.val (.str (wd i))) := by
  refine vOf_ok (Γ := [.val (iD i)]) ?_ (fun _ => nofun)
  unfold g_item_text m_item_text
  simp [ap_fnX, retV_of (check_item_ok h), retV_of (F_text_of i h)]
theorem is_none_itm (i : Itm) : dIs (iD i) .none = some (.val (.bool false)) := rfl
theorem is_none_none : dIs .none .none = some (.val (.bool true)) := rfl
theorem parse_item_any {z : Str} (hl : z.length ≤ 1000000) (ho : Ov z) : (∃ i, itemT z = some i ∧ vOf (g_parse_item [.val (.str z)]) = some (.val (iD i))) ∨ (itemT z = none ∧ eOf (g_parse_item [.val (.str z)]) = some 1) := by
  have e := retV_of (item_in_ok hl ho)
  cases h : itemT z with
  | some i =>
    rw [h] at e
    refine .inl ⟨i, rfl, vOf_ok (Γ := [.val (.str z), .val (iD i)]) ?_ (fun _ => nofun)⟩
    unfold g_parse_item m_parse_item
    simp [ap_fnX, isi_str, e, oD, is_none_itm]
  | none =>
    rw [h] at e
    refine .inr ⟨rfl, eOf_ok (Γ := [.val (.str z), .val .none]) ?_⟩
    unfold g_parse_item m_parse_item
    simp [ap_fnX, isi_str, e, oD, is_none_none]
theorem parse_item_ok {i : Itm} (h : i ∈ items110) : vOf (g_parse_item [.val (.str (wd i))]) = some (.val (iD i)) := by
  refine vOf_ok (Γ := [.val (.str (wd i)), .val (iD i)]) ?_ (fun _ => nofun)
  unfold g_parse_item m_parse_item
  simp [ap_fnX, isi_str, retV_of (F_item_in i h), is_none_itm]
theorem itemT_wd {i : Itm} (h : i ∈ items110) : itemT (wd i) = some i := by
  cases hn : itemT (wd i) with
  | none =>
    have := List.find?_eq_none.mp hn i h
    simp at this
  | some j =>
    have h1 := List.mem_of_find?_eq_some hn
    have h2 := List.find?_some hn
    simp only [decide_eq_true_eq] at h2
    rw [wd_inj h1 h h2]
theorem items_nodup : items110.Nodup := by decide +kernel
end Rt
namespace Rt
open PySem PySem.Spec PyProof.Rows L2
/-! ### covers of least cost, plainly -/
abbrev Pc := List Int × Int
def rest (left own : List Int) : List Int := left.filter fun n => !decide (n ∈ own)
def lst (ev : List Pc) : Nat → List Int → Int
  | 0, _ => 0
  | _ + 1, [] => 0
  | n + 1, x :: xs => minL ((ev.filter fun p => decide (x ∈ p.1)).map fun p => p.2 + lst ev n (rest (x :: xs) p.1))
def lenOf (ev : List Pc) (left : List Int) : Int := lst ev left.length left
theorem rest_lt {x : Int} {xs own : List Int} (h : x ∈ own) : (rest (x :: xs) own).length < (x :: xs).length := by
  unfold rest
  rw [List.filter_cons, if_neg (by simp [h])]
  have := List.length_filter_le (fun n => !decide (n ∈ own)) xs
  simp; omega
theorem lst_any (ev : List Pc) : ∀ (n m : Nat) (left : List Int), left.length ≤ n → left.length ≤ m → lst ev n left = lst ev m left
  | 0, 0, left, _, _ => rfl
  | 0, m + 1, [], _, _ => rfl
  | 0, m + 1, x :: xs, h, _ => by simp at h
  | n + 1, 0, [], _, _ => rfl
  | n + 1, 0, x :: xs, _, h => by simp at h
  | n + 1, m + 1, [], _, _ => rfl
  | n + 1, m + 1, x :: xs, h1, h2 => by
    simp only [lst]
    congr 1
    apply List.map_congr_left
    intro p hp
    have hx : x ∈ p.1 := by simpa using (List.mem_filter.mp hp).2
    have := rest_lt (xs := xs) hx
    simp only [List.length_cons] at h1 h2 this
    rw [lst_any ev n m _ (by omega) (by omega)]
theorem lenOf_nil (ev : List Pc) : lenOf ev [] = 0 := rfl
theorem lenOf_cons (ev : List Pc) (x : Int) (xs : List Int) : lenOf ev (x :: xs) = minL ((ev.filter fun p => decide (x ∈ p.1)).map fun p => p.2 + lenOf ev (rest (x :: xs) p.1)) := by
  unfold lenOf
  simp only [List.length_cons, lst]
  congr 1
  apply List.map_congr_left
  intro p hp
  have hx : x ∈ p.1 := by simpa using (List.mem_filter.mp hp).2
  have := rest_lt (xs := xs) hx
  simp only [List.length_cons] at this
  rw [lst_any ev xs.length _ _ (by omega) (Nat.le_refl _)]
theorem minL_mem : ∀ {l : List Int}, l ≠ [] → minL l ∈ l ∧ ∀ y ∈ l, minL l ≤ y
  | [], h => absurd rfl h
  | [a], _ => by simp [minL]
  | a :: b :: r, _ => by
    obtain ⟨h1, h2⟩ := minL_mem (l := b :: r) (by simp)
    have e : minL (a :: b :: r) = min a (minL (b :: r)) := rfl
    rw [e]
    constructor
    · by_cases h : a ≤ minL (b :: r)
      · rw [Int.min_eq_left h]; simp
      · rw [Int.min_eq_right (by omega)]; exact List.mem_cons_of_mem _ h1
    · intro y hy
      rcases List.mem_cons.mp hy with rfl | hy
      · exact Int.min_le_left _ _
      · exact Int.le_trans (Int.min_le_right _ _) (h2 y hy)
def costL (L : List Pc) : Int := (L.map (·.2)).sum
def Covers (L : List Pc) (left : List Int) : Prop := ∀ x ∈ left, ∃ p ∈ L, x ∈ p.1
theorem sum_perm {l m : List Int} (h : l.Perm m) : l.sum = m.sum := by
  induction h with
  | nil => rfl
  | cons x _ ih => simp [ih]
  | swap x y l => simp; omega
  | trans _ _ h1 h2 => exact h1.trans h2
theorem cost_erase {L : List Pc} {p : Pc} (h : p ∈ L) : costL L = p.2 + costL (L.erase p) := by
  have := (List.perm_cons_erase h).map (·.2)
  unfold costL
  rw [sum_perm this]
  simp
theorem cost_nonneg {L : List Pc} (h : ∀ p ∈ L, 0 ≤ p.2) : 0 ≤ costL L := by
  induction L with
  | nil => simp [costL]
  | cons p r ih =>
    have h1 := h p (by simp)
    have h2 := ih fun q hq => h q (by simp [hq])
    simp [costL] at h2 ⊢
    omega
/-- none is cheaper -/
theorem lenOf_le (ev : List Pc) (hev : ∀ p ∈ ev, 0 ≤ p.2) : ∀ (n : Nat) (left : List Int) (L : List Pc), left.length ≤ n → (∀ p ∈ L, p ∈ ev) → Covers L left → lenOf ev left ≤ costL L
  | _, [], L, _, hL, _ => by rw [lenOf_nil]; exact cost_nonneg fun p hp => hev p (hL p hp)
  | 0, x :: xs, L, h, _, _ => by simp at h
  | n + 1, x :: xs, L, h, hL, hc => by
    obtain ⟨p, hp, hx⟩ := hc x (by simp)
    have hr := rest_lt (xs := xs) hx
    simp only [List.length_cons] at h hr
    have h1 := lenOf_le ev hev n (rest (x :: xs) p.1) (L.erase p) (by omega) (fun q hq => hL q (List.mem_of_mem_erase hq)) (fun y hy => by
      obtain ⟨hy1, hy2⟩ := List.mem_filter.mp hy
      obtain ⟨q, hq, hyq⟩ := hc y hy1
      have : q ≠ p := fun z => by rw [z] at hyq; simp [hyq] at hy2
      exact ⟨q, (List.mem_erase_of_ne this).mpr hq, hyq⟩)
    rw [lenOf_cons, cost_erase hp]
    have hm : p ∈ ev.filter fun p => decide (x ∈ p.1) := List.mem_filter.mpr ⟨hL p hp, by simp [hx]⟩
    have h2 := (minL_mem (l := (ev.filter fun p => decide (x ∈ p.1)).map fun p => p.2 + lenOf ev (rest (x :: xs) p.1)) (by
      intro z
      have := List.map_eq_nil_iff.mp z
      rw [this] at hm
      cases hm)).2 _ (List.mem_map.mpr ⟨p, hm, rfl⟩)
    omega
/-- it is reached -/
theorem lenOf_get (ev : List Pc) : ∀ (n : Nat) (left : List Int), left.length ≤ n → Covers ev left → ∃ L : List Pc, (∀ p ∈ L, p ∈ ev) ∧ Covers L left ∧ costL L = lenOf ev left
  | _, [], _, _ => ⟨[], (by simp), (fun x hx => (by cases hx)), rfl⟩
  | 0, x :: xs, h, _ => by simp at h
  | n + 1, x :: xs, h, hc => by
    obtain ⟨p0, hp0, hx0⟩ := hc x (by simp)
    have hm := (minL_mem (l := (ev.filter fun p => decide (x ∈ p.1)).map fun p => p.2 + lenOf ev (rest (x :: xs) p.1)) (by
      intro z
      have := List.map_eq_nil_iff.mp z
      have hm : p0 ∈ ev.filter fun p => decide (x ∈ p.1) := List.mem_filter.mpr ⟨hp0, by simp [hx0]⟩
      rw [this] at hm
      cases hm)).1
    obtain ⟨p, hp, e⟩ := List.mem_map.mp hm
    obtain ⟨hp1, hp2⟩ := List.mem_filter.mp hp
    have hx : x ∈ p.1 := by simpa using hp2
    have hr := rest_lt (xs := xs) hx
    simp only [List.length_cons] at h hr
    obtain ⟨L, h1, h2, h3⟩ := lenOf_get ev n (rest (x :: xs) p.1) (by omega) (fun y hy => hc y (List.mem_filter.mp hy).1)
    refine ⟨p :: L, fun q hq => ?_, fun y hy => ?_, ?_⟩
    · rcases List.mem_cons.mp hq with rfl | hq
      · exact hp1
      · exact h1 q hq
    · by_cases hyp : y ∈ p.1
      · exact ⟨p, by simp, hyp⟩
      · obtain ⟨q, hq, hyq⟩ := h2 y (List.mem_filter.mpr ⟨hy, by simp [hyp]⟩)
        exact ⟨q, by simp [hq], hyq⟩
    · rw [lenOf_cons, ← e, ← h3]
      simp [costL]
/-! ### lists without repeats -/
theorem nodup_len {α : Type} [DecidableEq α] : ∀ {l m : List α}, l.Nodup → (∀ x ∈ l, x ∈ m) → l.length ≤ m.length
  | [], m, _, _ => by simp
  | x :: l, m, nd, h => by
    obtain ⟨h1, h2⟩ := List.nodup_cons.mp nd
    have hx := h x (by simp)
    have := nodup_len (l := l) (m := m.erase x) h2 fun y hy => by
      have : y ≠ x := fun z => h1 (z ▸ hy)
      exact (List.mem_erase_of_ne this).mpr (h y (by simp [hy]))
    rw [List.length_erase_of_mem hx] at this
    have := List.length_pos_of_mem hx
    simp; omega
theorem subsL_len : ∀ L : List Int, (subsL L).length = 2 ^ L.length
  | [] => rfl
  | x :: L => by
    simp only [subsL, List.length_append, List.length_map, subsL_len L, List.length_cons]
    omega
theorem subs_trans {S L : List Int} (p : Int → Bool) (h : S ∈ subsL L) : S.filter p ∈ subsL L := by
  induction L generalizing S with
  | nil =>
    have : S = [] := by simpa [subsL] using h
    subst this; simp [subsL]
  | cons x L ih =>
    simp only [subsL, List.mem_append, List.mem_map] at h ⊢
    rcases h with ⟨T, hT, rfl⟩ | h
    · by_cases hp : p x = true
      · exact .inl ⟨T.filter p, ih hT, by simp [hp]⟩
      · refine .inr ?_
        have : (x :: T).filter p = T.filter p := by simp [hp]
        rw [this]; exact ih hT
    · exact .inr (ih h)
theorem subs_self : ∀ L : List Int, L ∈ subsL L
  | [] => by simp [subsL]
  | x :: L => by simp [subsL, subs_self L]
end Rt
namespace Rt
open PySem PySem.Spec PyProof.Rows L2
theorem io3 {g : En → Rs R} {f1 f2 : M R} {Γ Γ' : En} {i : Nat} {kk : Option Nat} {o o' : Ob} {q1 q2 r : R} {d1 d2 : D} (h1 : f1 Γ = .ok q1 Γ) (s1 : stD q1 Γ = .ok d1 Γ) (h2 : f2 Γ = .ok q2 Γ) (s2 : stD q2 Γ = .ok d2 Γ) (hi : Γ[i]? = some (.own kk o))
    (hg : g [.val d1, .val d2, .own (some 2) o] = .ok r Γ') (h4 : Γ'[2]? = some (.own (some 2) o')) (hr : ∀ j, r ≠ .bor j) : callIO 3 g (aCons (sto f1) (aCons (sto f2) (aLast (eVar i)))) Γ = .ok r (Γ.set i (.own kk o')) := by
  unfold callIO aCons aLast sto stR eVar
  simp only [M.bnd, h1, s1, h2, s2, hold, M.ret, hi, argIO, valsOf, Option.map, slV, List.map, List.length_cons, List.length_nil]
  unfold retIO
  simp only [if_pos, hg]
  cases r with
  | val d => simp only [afterIO, hi, h4, if_pos]
  | own o => simp only [afterIO, hi, h4, if_pos]
  | bor j => exact absurd rfl (hr j)
theorem io3n {g : En → Rs R} {f1 f2 f3 : M R} {Γ Γ' : En} {o : Ob} {q1 q2 r : R} {d1 d2 : D} (h1 : f1 Γ = .ok q1 Γ) (s1 : stD q1 Γ = .ok d1 Γ) (h2 : f2 Γ = .ok q2 Γ) (s2 : stD q2 Γ = .ok d2 Γ) (h3 : f3 Γ = .ok (.own o) Γ)
    (hg : g [.val d1, .val d2, .own (some 2) o] = .ok r Γ') (hr : ∀ j, r ≠ .bor j) : callIO 3 g (aCons (sto f1) (aCons (sto f2) (aLast f3))) Γ = .ok r Γ := by
  unfold callIO aCons aLast sto stR
  simp only [M.bnd, h1, s1, h2, s2, hold, M.ret, h3, argIO, valsOf, Option.map, slV, List.map, List.length_cons, List.length_nil]
  unfold retIO
  simp only [if_pos, hg]
  cases r with
  | val d => simp only [afterIO]
  | own o => simp only [afterIO]
  | bor j => exact absurd rfl (hr j)
/-! ### the dict of what is known -/
abbrev tpl (l : List Int) : D := .tuple (l.map PyData.int)
theorem keyD_tpl (l : List Int) : keyD (tpl l) = some l := intsOf_map l
theorem nin_ok' {Γ : En} {a i : Nat} {kk : Option Nat} {kvs : List (List Int × Int)} {ks : List Int} (ha : Γ[a]? = some (.val (tpl ks))) (hi : Γ[i]? = some (.own kk (.dT kvs))) : tst (ninM (eVar a) i) Γ = .ok (lookT kvs ks).isNone Γ := by
  have e : ninM (eVar a) i Γ = .ok (.val (.bool (lookT kvs ks).isNone)) Γ := by
    unfold ninM
    rw [bnd_ok (a := .bor a) (Γ1 := Γ) (by simp [ha])]
    rw [bnd_ok (a := .bor a) (Γ1 := Γ) (by simp)]
    have h1 : dictT Γ i = some kvs := by unfold dictT; rw [hi]
    have h2 : rdD Γ (.bor a) = some (tpl ks) := by unfold rdD; simp only [ha]
    rw [h1, h2]
    simp only [Option.bind_some, keyD_tpl]
  unfold tst
  rw [bnd_ok e]
  rfl
theorem dget_ok' {Γ : En} {a i : Nat} {kk : Option Nat} {kvs : List (List Int × Int)} {ks : List Int} {v : Int} (ha : Γ[a]? = some (.val (tpl ks))) (hi : Γ[i]? = some (.own kk (.dT kvs))) (hv : lookT kvs ks = some v) : dgetM i (eVar a) Γ = .ok (.val (.int v)) Γ := by
  have h1 : dictT Γ i = some kvs := by unfold dictT; rw [hi]
  have h2 : rdD Γ (.bor a) = some (tpl ks) := by unfold rdD; simp only [ha]
  unfold dgetM
  rw [h1]
  simp only
  rw [bnd_ok (a := .bor a) (Γ1 := Γ) (by simp [ha]), bnd_ok (a := .bor a) (Γ1 := Γ) (by simp), h1, h2]
  simp only [Option.bind_some, keyD_tpl, hv]
theorem dput_ok' {Γ : En} {a b i : Nat} {kk : Option Nat} {kvs : List (List Int × Int)} {ks : List Int} {w : Int} (ha : Γ[a]? = some (.val (tpl ks))) (hb : Γ[b]? = some (.val (.int w))) (hi : Γ[i]? = some (.own kk (.dT kvs))) (hv : lookT kvs ks = none) (hl : kvs.length < 1000000) :
    dputM i (eVar a) (eVar b) Γ = .ok .nx (Γ.set i (.own kk (.dT (kvs ++ [(ks, w)])))) := by
  have h1 : dictT Γ i = some kvs := by unfold dictT; rw [hi]
  have h2 : rdD Γ (.bor a) = some (tpl ks) := by unfold rdD; simp only [ha]
  unfold dputM
  rw [bnd_ok (a := .bor b) (Γ1 := Γ) (by simp [hb]), bnd_ok (a := .int w) (Γ1 := Γ) (by simp [hb]), h1]
  simp only
  rw [bnd_ok (a := .bor a) (Γ1 := Γ) (by simp [ha]), bnd_ok (a := .bor a) (Γ1 := Γ) (by simp), h2]
  simp only [hi, Option.bind_some, keyD_tpl, hv, if_pos hl]
theorem look_some : ∀ {kvs : List (List Int × Int)} {ks : List Int} {v : Int}, lookT kvs ks = some v → (ks, v) ∈ kvs
  | [], _, _, h => by cases h
  | kv :: r, ks, v, h => by
    unfold lookT at h
    split at h
    · rename_i e
      cases h
      subst e
      simp
    · exact List.mem_cons_of_mem _ (look_some h)
theorem look_none : ∀ {kvs : List (List Int × Int)} {ks : List Int}, lookT kvs ks = none → ks ∉ kvs.map (·.1)
  | [], _, _ => by simp
  | kv :: r, ks, h => by
    unfold lookT at h
    split at h
    · cases h
    · rename_i e
      simp only [List.map_cons, List.mem_cons, not_or]
      exact ⟨fun z => e z.symm, look_none h⟩
theorem look_app {kvs : List (List Int × Int)} {ks : List Int} {v : Int} (h : lookT kvs ks = none) : lookT (kvs ++ [(ks, v)]) ks = some v := by
  induction kvs with
  | nil => simp [lookT]
  | cons kv r ih =>
    unfold lookT at h
    split at h
    · cases h
    · rename_i e
      rw [List.cons_append, lookT, if_neg e]
      exact ih h
theorem look_not : ∀ {kvs : List (List Int × Int)} {ks : List Int}, ks ∉ kvs.map (·.1) → lookT kvs ks = none
  | [], _, _ => rfl
  | kv :: r, ks, h => by
    simp only [List.map_cons, List.mem_cons, not_or] at h
    rw [lookT, if_neg (fun z => h.1 z.symm)]
    exact look_not h.2
/-- what is known is right -/
structure Kn (V : List Int → Int) (S : List Int) (kvs : List (List Int × Int)) : Prop where
  nd : (kvs.map (·.1)).Nodup
  sub : ∀ kv ∈ kvs, kv.1 ∈ subsL S
  val : ∀ kv ∈ kvs, kv.2 = V kv.1
theorem Kn.len {V : List Int → Int} {S : List Int} {kvs : List (List Int × Int)} (k : Kn V S kvs) (h : S.length ≤ 10) : kvs.length ≤ 1024 := by
  have := nodup_len (m := subsL S) k.nd fun x hx => by
    obtain ⟨kv, h1, rfl⟩ := List.mem_map.mp hx
    exact k.sub kv h1
  rw [List.length_map, subsL_len] at this
  have h2 : 2 ^ S.length ≤ 2 ^ 10 := Nat.pow_le_pow_right (by decide) h
  omega
theorem Kn.nil {V : List Int → Int} {S : List Int} : Kn V S [] := ⟨by simp, by simp, by simp⟩
theorem Kn.put {V : List Int → Int} {S ks : List Int} {kvs : List (List Int × Int)} (k : Kn V S kvs) (hs : ks ∈ subsL S) (hn : lookT kvs ks = none) : Kn V S (kvs ++ [(ks, V ks)]) := by
  refine ⟨?_, fun kv h => ?_, fun kv h => ?_⟩
  · rw [List.map_append, List.nodup_append]
    refine ⟨k.nd, by simp, fun a ha b hb => ?_⟩
    simp at hb
    subst hb
    exact fun z => look_none hn (z ▸ ha)
  · rcases List.mem_append.mp h with h | h
    · exact k.sub kv h
    · simp at h; subst h; exact hs
  · rcases List.mem_append.mp h with h | h
    · exact k.val kv h
    · simp at h; subst h; rfl
/-! ### least_from -/
def wLen (i : Itm) : Int := (wd i).length + 1
def pcI (i : Itm) : Pc := (nums i, wLen i)
def wD (i : Itm) : D := .tuple [iD i, tpl (nums i), .int (wLen i)]
def oI : Option Int → D
  | none => .none
  | some v => .int v
def better (b : Option Int) (w : Int) : Option Int := match b with
  | none => some w
  | some v => some (if w < v then w else v)
theorem in_tpl (a : Int) (x : List Int) : inD (.int a) (tpl x) = some (decide (a ∈ x)) := by
  have h1 : (x.map PyData.int).all flatD = true := by simp [flatD]
  have h2 : ((x.map PyData.int).any fun z => PyData.eqv z (.int a)) = decide (a ∈ x) := by
    have := in_dl a x
    unfold inD at this
    simp only [flatD, h1, Bool.and_self, if_true, Option.some.injEq] at this
    exact this
  unfold inD
  simp only [flatD, h1, Bool.and_self, if_true, h2]
theorem better_some : ∀ (ws : List Int) (v : Int), ws.foldl better (some v) = some (minL (v :: ws))
  | [], v => rfl
  | w :: r, v => by
    rw [List.foldl_cons]
    have hm : better (some v) w = some (min v w) := by
      simp only [better]
      congr 1
      split <;> omega
    rw [hm, better_some r]
    have e : ∀ (a b : Int) (r : List Int), minL (a :: b :: r) = min a (minL (b :: r)) := fun a b r => rfl
    cases r with
    | nil => rfl
    | cons x r => rw [e, e, e]; congr 1; omega
theorem better_none (w : Int) (r : List Int) : (w :: r).foldl better none = some (minL (w :: r)) := by
  rw [List.foldl_cons]
  exact better_some r w
theorem eq_tpl (x y : List Int) : dEq (tpl x) (tpl y) = some (.val (.bool (decide (x = y)))) := Enc.int.tuple.eq (by decide) x y
end Rt
namespace Rt
open PySem PySem.Spec PyProof.Rows L2
theorem nodup_sub_len {L S : List Int} (h : S ∈ subsL L) : S.length ≤ L.length := by
  induction L generalizing S with
  | nil =>
    have : S = [] := by simpa [subsL] using h
    simp [this]
  | cons x L ih =>
    simp only [subsL, List.mem_append, List.mem_map] at h
    rcases h with ⟨T, hT, rfl⟩ | h
    · have := ih hT; simp; omega
    · have := ih h; simp; omega
theorem subs_ten' {L S : List Int} (h : S ∈ subsL L) : ∀ n ∈ S, n ∈ L := subs_ten h
theorem in_nil_eq (l : List Int) : dEq (tpl l) (.tuple []) = some (.val (.bool (decide (l = [])))) := eq_tpl l []
theorem is_none_int (v : Int) : dIs (.int v) .none = some (.val (.bool false)) := rfl
theorem oI_none (b : Option Int) : dIs (oI b) .none = some (.val (.bool b.isNone)) := by cases b <;> rfl
theorem step_fold (L : List Itm) (p : Itm → Bool) (w : Itm → Int) : ∀ (b : Option Int), L.foldl (fun b i => if p i = true then better b (w i) else b) b = ((L.filter p).map w).foldl better b := by
  induction L with
  | nil => intro b; rfl
  | cons i r ih =>
    intro b
    rw [List.foldl_cons, ih]
    by_cases h : p i = true <;> simp [h]
theorem least_ok {S : List Int} (hS : S.length ≤ 10) {L : List Itm} (hL : L.length ≤ 1000) (hc : Covers (L.map pcI) S) : ∀ (n : Nat) (left : List Int) (kvs : List (List Int × Int)), left ∈ subsL S → left.length < n → Kn (lenOf (L.map pcI)) S kvs →
    ∃ kvs' Γ', g_least_from n [.val (tpl left), .val (.list (L.map wD)), .own (some 2) (.dT kvs)] = .ok (.val (.int (lenOf (L.map pcI) left))) Γ' ∧ Γ'[2]? = some (.own (some 2) (.dT kvs')) ∧ Kn (lenOf (L.map pcI)) S kvs' ∧ ∀ kv ∈ kvs', kv ∈ kvs ∨ kv.1.length ≤ left.length
  | 0, left, kvs, _, h, _ => absurd h (Nat.not_lt_zero _)
  | n + 1, [], kvs, hs, hn, kn => by
    refine ⟨kvs, [.val (tpl []), .val (.list (L.map wD)), .own (some 2) (.dT kvs), .un, .un, .un, .un, .un, .un, .un], ?_, rfl, kn, fun kv h => .inl h⟩
    have q : dEq (tpl []) (.tuple []) = some (.val (.bool true)) := eq_tpl [] []
    unfold g_least_from m_least_from
    simp [ap_fnP, q, lenOf_nil]
  | n + 1, x :: xs, kvs, hs, hn, kn => by
    have hn : xs.length + 1 < n + 1 := by simpa using hn
    have lS : (x :: xs).length ≤ 10 := by
      have := nodup_sub_len hs
      omega
    have st0 : (sIf (tst (bin dEq (eVar 0) (mkTup (aNil)))) (sRet (eC (.int 0))) (sNx)) [.val (tpl (x :: xs)), .val (.list (L.map wD)), .own (some 2) (.dT kvs), .un, .un, .un, .un, .un, .un, .un] = .ok .nx [.val (tpl (x :: xs)), .val (.list (L.map wD)), .own (some 2) (.dT kvs), .un, .un, .un, .un, .un, .un, .un] := by
      have q := in_nil_eq (x :: xs)
      rw [decide_eq_false (by simp)] at q
      simp [q]
    cases hk : lookT kvs (x :: xs) with
    | some v =>
      have hv := kn.val _ (look_some hk)
      refine ⟨kvs, [.val (tpl (x :: xs)), .val (.list (L.map wD)), .own (some 2) (.dT kvs), .un, .un, .un, .un, .un, .un, .un], ?_, rfl, kn, fun kv h => .inl h⟩
      have st1 : (sIf (tst (ninM (eVar 0) 2)) (sSeq (sAsg 3 (eC .none)) (sSeq (sFor (iSq (eVar 1)) (tgT [4, 5, 6]) (sIf (tst (bin dIn (bin dIx (eVar 0) (eC (.int 0))) (eVar 5))) (sSeq (sAsg 7 (sto (callD dTuple (aLast (lcM (iSq (eVar 0)) (tgN 9) (tst (bin dNotIn (eVar 9) (eVar 5))) (eVar 9) [9]))))) (sSeq (sAsg 8 (sto (bin dAdd (eVar 6) (callIO 3 (g_least_from n) (aCons (sto (eVar 7)) (aCons (sto (eVar 1)) (aLast (eVar 2)))))))) (sAsg 3 (sto (vIf (mOr (tst (bin dIs (eVar 3) (eC .none))) (tst (bin dLt (eVar 8) (eVar 3)))) (eVar 8) (eVar 3)))))) (sNx))) (dputM 2 (eVar 0) (eVar 3)))) (sNx)) [.val (tpl (x :: xs)), .val (.list (L.map wD)), .own (some 2) (.dT kvs), .un, .un, .un, .un, .un, .un, .un] = .ok .nx [.val (tpl (x :: xs)), .val (.list (L.map wD)), .own (some 2) (.dT kvs), .un, .un, .un, .un, .un, .un, .un] := by
        rw [ap_sIf, nin_ok' (ks := x :: xs) (kvs := kvs) (kk := some 2) rfl rfl, hk]
        rfl
      have st2 : (sRet (dgetM 2 (eVar 0))) [.val (tpl (x :: xs)), .val (.list (L.map wD)), .own (some 2) (.dT kvs), .un, .un, .un, .un, .un, .un, .un] = .ok (.ret (.val (.int v))) [.val (tpl (x :: xs)), .val (.list (L.map wD)), .own (some 2) (.dT kvs), .un, .un, .un, .un, .un, .un, .un] := by
        rw [ap_sRet, dget_ok' (ks := x :: xs) (kvs := kvs) (kk := some 2) rfl rfl hk]
        rfl
      have hv : v = lenOf (L.map pcI) (x :: xs) := hv
      subst hv
      have e : m_least_from (g_least_from n) [.val (tpl (x :: xs)), .val (.list (L.map wD)), .own (some 2) (.dT kvs), .un, .un, .un, .un, .un, .un, .un] = .ok (.ret (.val (.int (lenOf (L.map pcI) (x :: xs))))) [.val (tpl (x :: xs)), .val (.list (L.map wD)), .own (some 2) (.dT kvs), .un, .un, .un, .un, .un, .un, .un] := by
        unfold m_least_from
        exact sq st0 (sq st1 st2)
      have ge : g_least_from (n + 1) = fnP (m_least_from (g_least_from n)) 7 := rfl
      rw [ge, ap_fnP]
      show finF (m_least_from (g_least_from n) [.val (tpl (x :: xs)), .val (.list (L.map wD)), .own (some 2) (.dT kvs), .un, .un, .un, .un, .un, .un, .un]) = _
      rw [e, finF_ret]
    | none =>
      obtain ⟨Γ', eF, kvs3, z4, z5, z6, z7, z8, rfl, kn3, old3⟩ := for_rel (tg := tgT [4, 5, 6]) (b := (sIf (tst (bin dIn (bin dIx (eVar 0) (eC (.int 0))) (eVar 5))) (sSeq (sAsg 7 (sto (callD dTuple (aLast (lcM (iSq (eVar 0)) (tgN 9) (tst (bin dNotIn (eVar 9) (eVar 5))) (eVar 9) [9]))))) (sSeq (sAsg 8 (sto (bin dAdd (eVar 6) (callIO 3 (g_least_from n) (aCons (sto (eVar 7)) (aCons (sto (eVar 1)) (aLast (eVar 2)))))))) (sAsg 3 (sto (vIf (mOr (tst (bin dIs (eVar 3) (eC .none))) (tst (bin dLt (eVar 8) (eVar 3)))) (eVar 8) (eVar 3)))))) (sNx))) wD (fun b i => if decide (x ∈ nums i) = true then better b (wLen i + lenOf (L.map pcI) (rest (x :: xs) (nums i))) else b)
        (fun b Γ => ∃ kvs1 z4 z5 z6 z7 z8, Γ = [.val (tpl (x :: xs)), .val (.list (L.map wD)), .own (some 2) (.dT kvs1), .val (oI b), z4, z5, z6, z7, z8, .un] ∧ Kn (lenOf (L.map pcI)) S kvs1 ∧ ∀ kv ∈ kvs1, kv ∈ kvs ∨ kv.1.length < (x :: xs).length) L none [.val (tpl (x :: xs)), .val (.list (L.map wD)), .own (some 2) (.dT kvs), .val (.none), .un, .un, .un, .un, .un, .un]
        (by
          rintro i hi b Γ ⟨kvs1, z4, z5, z6, z7, z8, rfl, kn1, old1⟩
          refine ⟨[.val (tpl (x :: xs)), .val (.list (L.map wD)), .own (some 2) (.dT kvs1), .val (oI b), .val (iD i), .val (tpl (nums i)), .val (.int (wLen i)), z7, z8, .un], ?_⟩
          by_cases hx : x ∈ nums i
          · have t : tst (bin dIn (bin dIx (eVar 0) (eC (.int 0))) (eVar 5)) [.val (tpl (x :: xs)), .val (.list (L.map wD)), .own (some 2) (.dT kvs1), .val (oI b), .val (iD i), .val (tpl (nums i)), .val (.int (wLen i)), z7, z8, .un] = .ok true [.val (tpl (x :: xs)), .val (.list (L.map wD)), .own (some 2) (.dT kvs1), .val (oI b), .val (iD i), .val (tpl (nums i)), .val (.int (wLen i)), z7, z8, .un] := by
              simp [at0, in_tpl, hx]
            have c : lcM (iSq (eVar 0)) (tgN 9) (tst (bin dNotIn (eVar 9) (eVar 5))) (eVar 9) [9] [.val (tpl (x :: xs)), .val (.list (L.map wD)), .own (some 2) (.dT kvs1), .val (oI b), .val (iD i), .val (tpl (nums i)), .val (.int (wLen i)), z7, z8, .un] = .ok (.own (.lst ((rest (x :: xs) (nums i)).map PyData.int))) [.val (tpl (x :: xs)), .val (.list (L.map wD)), .own (some 2) (.dT kvs1), .val (oI b), .val (iD i), .val (tpl (nums i)), .val (.int (wLen i)), z7, z8, .un] :=
              lc1 PyData.int (fun n => !decide (n ∈ nums i)) PyData.int (x :: xs) (by simp) (by omega) (by simp) rfl fun y hy => ⟨by simp [in_tpl], fun _ => ⟨.bor 9, by simp, by simp⟩⟩
            have ca : callD dTuple (aLast (lcM (iSq (eVar 0)) (tgN 9) (tst (bin dNotIn (eVar 9) (eVar 5))) (eVar 9) [9])) [.val (tpl (x :: xs)), .val (.list (L.map wD)), .own (some 2) (.dT kvs1), .val (oI b), .val (iD i), .val (tpl (nums i)), .val (.int (wLen i)), z7, z8, .un] = .ok (.val (tpl (rest (x :: xs) (nums i)))) [.val (tpl (x :: xs)), .val (.list (L.map wD)), .own (some 2) (.dT kvs1), .val (oI b), .val (iD i), .val (tpl (nums i)), .val (.int (wLen i)), z7, z8, .un] := by
              rw [ap_callD, ap_aLast, c]
              rfl
            have a1 : (sAsg 7 (sto (callD dTuple (aLast (lcM (iSq (eVar 0)) (tgN 9) (tst (bin dNotIn (eVar 9) (eVar 5))) (eVar 9) [9]))))) [.val (tpl (x :: xs)), .val (.list (L.map wD)), .own (some 2) (.dT kvs1), .val (oI b), .val (iD i), .val (tpl (nums i)), .val (.int (wLen i)), z7, z8, .un] = .ok .nx [.val (tpl (x :: xs)), .val (.list (L.map wD)), .own (some 2) (.dT kvs1), .val (oI b), .val (iD i), .val (tpl (nums i)), .val (.int (wLen i)), .val (tpl (rest (x :: xs) (nums i))), z8, .un] := asg_v ca rfl (by simp)
            have hr := rest_lt (xs := xs) hx
            simp only [List.length_cons] at hr
            obtain ⟨kvs2, Γ2, e2, f2, kn2, old2⟩ := least_ok hS hL hc n (rest (x :: xs) (nums i)) kvs1 (subs_trans _ hs) (by omega) kn1
            have io := io3 (g := g_least_from n) (f1 := eVar 7) (f2 := eVar 1) (Γ := [.val (tpl (x :: xs)), .val (.list (L.map wD)), .own (some 2) (.dT kvs1), .val (oI b), .val (iD i), .val (tpl (nums i)), .val (.int (wLen i)), .val (tpl (rest (x :: xs) (nums i))), z8, .un]) (i := 2) (kk := some 2) (q1 := .bor 7) (q2 := .bor 1) rfl rfl rfl rfl rfl e2 f2 (fun _ => nofun)
            have a2 : (sAsg 8 (sto (bin dAdd (eVar 6) (callIO 3 (g_least_from n) (aCons (sto (eVar 7)) (aCons (sto (eVar 1)) (aLast (eVar 2)))))))) [.val (tpl (x :: xs)), .val (.list (L.map wD)), .own (some 2) (.dT kvs1), .val (oI b), .val (iD i), .val (tpl (nums i)), .val (.int (wLen i)), .val (tpl (rest (x :: xs) (nums i))), z8, .un] = .ok .nx [.val (tpl (x :: xs)), .val (.list (L.map wD)), .own (some 2) (.dT kvs2), .val (oI b), .val (iD i), .val (tpl (nums i)), .val (.int (wLen i)), .val (tpl (rest (x :: xs) (nums i))), .val (.int (wLen i + lenOf (L.map pcI) (rest (x :: xs) (nums i)))), .un] := by simp [io]
            have a3 : (sAsg 3 (sto (vIf (mOr (tst (bin dIs (eVar 3) (eC .none))) (tst (bin dLt (eVar 8) (eVar 3)))) (eVar 8) (eVar 3)))) [.val (tpl (x :: xs)), .val (.list (L.map wD)), .own (some 2) (.dT kvs2), .val (oI b), .val (iD i), .val (tpl (nums i)), .val (.int (wLen i)), .val (tpl (rest (x :: xs) (nums i))), .val (.int (wLen i + lenOf (L.map pcI) (rest (x :: xs) (nums i)))), .un] = .ok .nx [.val (tpl (x :: xs)), .val (.list (L.map wD)), .own (some 2) (.dT kvs2), .val (oI (better b (wLen i + lenOf (L.map pcI) (rest (x :: xs) (nums i))))), .val (iD i), .val (tpl (nums i)), .val (.int (wLen i)), .val (tpl (rest (x :: xs) (nums i))), .val (.int (wLen i + lenOf (L.map pcI) (rest (x :: xs) (nums i)))), .un] := by
              cases b with
              | none => simp [oI, better, is_none_none]
              | some v =>
                by_cases hw : wLen i + lenOf (L.map pcI) (rest (x :: xs) (nums i)) < v
                · simp [oI, better, is_none_int, hw]
                · simp [oI, better, is_none_int, hw]
            refine ⟨[.val (tpl (x :: xs)), .val (.list (L.map wD)), .own (some 2) (.dT kvs2), .val (oI (better b (wLen i + lenOf (L.map pcI) (rest (x :: xs) (nums i))))), .val (iD i), .val (tpl (nums i)), .val (.int (wLen i)), .val (tpl (rest (x :: xs) (nums i))), .val (.int (wLen i + lenOf (L.map pcI) (rest (x :: xs) (nums i)))), .un], rfl, ?_, kvs2, .val (iD i), .val (tpl (nums i)), .val (.int (wLen i)), .val (tpl (rest (x :: xs) (nums i))), .val (.int (wLen i + lenOf (L.map pcI) (rest (x :: xs) (nums i)))), ?_, kn2, fun kv h => ?_⟩
            · rw [ap_sIf, t, and_ok, if_pos rfl]
              exact sq a1 (sq a2 a3)
            · rw [if_pos (decide_eq_true hx)]
            · rcases old2 kv h with h | h
              · exact old1 kv h
              · exact .inr (by simp only [List.length_cons]; omega)
          · have t : tst (bin dIn (bin dIx (eVar 0) (eC (.int 0))) (eVar 5)) [.val (tpl (x :: xs)), .val (.list (L.map wD)), .own (some 2) (.dT kvs1), .val (oI b), .val (iD i), .val (tpl (nums i)), .val (.int (wLen i)), z7, z8, .un] = .ok false [.val (tpl (x :: xs)), .val (.list (L.map wD)), .own (some 2) (.dT kvs1), .val (oI b), .val (iD i), .val (tpl (nums i)), .val (.int (wLen i)), z7, z8, .un] := by
              simp [at0, in_tpl, hx]
            refine ⟨[.val (tpl (x :: xs)), .val (.list (L.map wD)), .own (some 2) (.dT kvs1), .val (oI b), .val (iD i), .val (tpl (nums i)), .val (.int (wLen i)), z7, z8, .un], rfl, ?_, kvs1, .val (iD i), .val (tpl (nums i)), .val (.int (wLen i)), z7, z8, ?_, kn1, old1⟩
            · rw [ap_sIf, t, and_ok, if_neg Bool.false_ne_true]
              rfl
            · rw [if_neg (by simpa using hx)])
        ⟨kvs, .un, .un, .un, .un, .un, rfl, kn, fun kv h => .inl h⟩
      have hfold : L.foldl (fun b i => if decide (x ∈ nums i) = true then better b (wLen i + lenOf (L.map pcI) (rest (x :: xs) (nums i))) else b) none = some (lenOf (L.map pcI) (x :: xs)) := by
        rw [step_fold L (fun i => decide (x ∈ nums i)) fun i => wLen i + lenOf (L.map pcI) (rest (x :: xs) (nums i))]
        have e : ((L.map pcI).filter fun p => decide (x ∈ p.1)).map (fun p => p.2 + lenOf (L.map pcI) (rest (x :: xs) p.1)) = (L.filter fun i => decide (x ∈ nums i)).map fun i => wLen i + lenOf (L.map pcI) (rest (x :: xs) (nums i)) := by
          rw [List.filter_map, List.map_map]
          rfl
        rw [lenOf_cons, e]
        obtain ⟨p, hp, hxp⟩ := hc x (subs_ten' hs x (by simp))
        obtain ⟨i, hi, rfl⟩ := List.mem_map.mp hp
        have hm : i ∈ L.filter fun i => decide (x ∈ nums i) := List.mem_filter.mpr ⟨hi, decide_eq_true hxp⟩
        cases hq : (L.filter fun i => decide (x ∈ nums i)).map fun i => wLen i + lenOf (L.map pcI) (rest (x :: xs) (nums i)) with
        | nil =>
          have := List.map_eq_nil_iff.mp hq
          rw [this] at hm
          cases hm
        | cons w r => exact better_none w r
      rw [hfold] at eF
      have l3 := kn3.len hS
      have hk3 : lookT kvs3 (x :: xs) = none := look_not fun z => by
        obtain ⟨kv, h1, h2⟩ := List.mem_map.mp z
        rcases old3 kv h1 with h | h
        · exact look_none hk (List.mem_map.mpr ⟨kv, h, h2⟩)
        · rw [h2] at h
          exact absurd h (Nat.lt_irrefl _)
      have st1 : (sIf (tst (ninM (eVar 0) 2)) (sSeq (sAsg 3 (eC .none)) (sSeq (sFor (iSq (eVar 1)) (tgT [4, 5, 6]) (sIf (tst (bin dIn (bin dIx (eVar 0) (eC (.int 0))) (eVar 5))) (sSeq (sAsg 7 (sto (callD dTuple (aLast (lcM (iSq (eVar 0)) (tgN 9) (tst (bin dNotIn (eVar 9) (eVar 5))) (eVar 9) [9]))))) (sSeq (sAsg 8 (sto (bin dAdd (eVar 6) (callIO 3 (g_least_from n) (aCons (sto (eVar 7)) (aCons (sto (eVar 1)) (aLast (eVar 2)))))))) (sAsg 3 (sto (vIf (mOr (tst (bin dIs (eVar 3) (eC .none))) (tst (bin dLt (eVar 8) (eVar 3)))) (eVar 8) (eVar 3)))))) (sNx))) (dputM 2 (eVar 0) (eVar 3)))) (sNx)) [.val (tpl (x :: xs)), .val (.list (L.map wD)), .own (some 2) (.dT kvs), .un, .un, .un, .un, .un, .un, .un] = .ok .nx [.val (tpl (x :: xs)), .val (.list (L.map wD)), .own (some 2) (.dT (kvs3 ++ [(x :: xs, lenOf (L.map pcI) (x :: xs))])), .val (.int (lenOf (L.map pcI) (x :: xs))), z4, z5, z6, z7, z8, .un] := by
        rw [ap_sIf, nin_ok' (ks := x :: xs) (kvs := kvs) (kk := some 2) rfl rfl, hk, and_ok, show (none : Option Int).isNone = true from rfl, if_pos rfl]
        refine sq (Γ1 := [.val (tpl (x :: xs)), .val (.list (L.map wD)), .own (some 2) (.dT kvs), .val (.none), .un, .un, .un, .un, .un, .un]) (by simp) (sq (Γ1 := [.val (tpl (x :: xs)), .val (.list (L.map wD)), .own (some 2) (.dT kvs3), .val (.int (lenOf (L.map pcI) (x :: xs))), z4, z5, z6, z7, z8, .un]) ?_ ?_)
        · rw [ap_sFor]
          have : iSq (eVar 1) [.val (tpl (x :: xs)), .val (.list (L.map wD)), .own (some 2) (.dT kvs), .val (.none), .un, .un, .un, .un, .un, .un] = .ok (L.map wD) [.val (tpl (x :: xs)), .val (.list (L.map wD)), .own (some 2) (.dT kvs), .val (.none), .un, .un, .un, .un, .un, .un] := by simp
          rw [this, and_ok]
          exact eF
        · exact dput_ok' (a := 0) (b := 3) (i := 2) (ks := x :: xs) rfl rfl rfl hk3 (by omega)
      have st2 : (sRet (dgetM 2 (eVar 0))) [.val (tpl (x :: xs)), .val (.list (L.map wD)), .own (some 2) (.dT (kvs3 ++ [(x :: xs, lenOf (L.map pcI) (x :: xs))])), .val (.int (lenOf (L.map pcI) (x :: xs))), z4, z5, z6, z7, z8, .un] = .ok (.ret (.val (.int (lenOf (L.map pcI) (x :: xs))))) [.val (tpl (x :: xs)), .val (.list (L.map wD)), .own (some 2) (.dT (kvs3 ++ [(x :: xs, lenOf (L.map pcI) (x :: xs))])), .val (.int (lenOf (L.map pcI) (x :: xs))), z4, z5, z6, z7, z8, .un] := by
        rw [ap_sRet, dget_ok' (ks := x :: xs) (kk := some 2) rfl rfl (look_app hk3)]
        rfl
      refine ⟨_, [.val (tpl (x :: xs)), .val (.list (L.map wD)), .own (some 2) (.dT (kvs3 ++ [(x :: xs, lenOf (L.map pcI) (x :: xs))])), .val (.int (lenOf (L.map pcI) (x :: xs))), z4, z5, z6, z7, z8, .un], ?_, rfl, kn3.put hs hk3, fun kv h => ?_⟩
      · have e : m_least_from (g_least_from n) [.val (tpl (x :: xs)), .val (.list (L.map wD)), .own (some 2) (.dT kvs), .un, .un, .un, .un, .un, .un, .un] = .ok (.ret (.val (.int (lenOf (L.map pcI) (x :: xs))))) [.val (tpl (x :: xs)), .val (.list (L.map wD)), .own (some 2) (.dT (kvs3 ++ [(x :: xs, lenOf (L.map pcI) (x :: xs))])), .val (.int (lenOf (L.map pcI) (x :: xs))), z4, z5, z6, z7, z8, .un] := by
          unfold m_least_from
          exact sq st0 (sq st1 st2)
        have ge : g_least_from (n + 1) = fnP (m_least_from (g_least_from n)) 7 := rfl
        rw [ge, ap_fnP]
        show finF (m_least_from (g_least_from n) [.val (tpl (x :: xs)), .val (.list (L.map wD)), .own (some 2) (.dT kvs), .un, .un, .un, .un, .un, .un, .un]) = _
        rw [e, finF_ret]
      · rcases List.mem_append.mp h with h | h
        · rcases old3 kv h with h | h
          · exact .inl h
          · exact .inr (Nat.le_of_lt h)
        · simp at h
          subst h
          exact .inr (Nat.le_refl _)
end Rt
namespace Rt
open PySem PySem.Spec PyProof.Rows L2
abbrev evS (S : List Int) : List Pc := (withinT S).map pcI
def lenT (S : List Int) : Int := lenOf (evS S) S
def lengthT (S : List Int) : Int := lenT S - 1
theorem one_within {S : List Int} (h : S ∈ subsL ten) {x : Int} (hx : x ∈ S) : one1 x ∈ withinT S := by
  have hf := F_one x (subs_ten h x hx)
  refine mem_within.mpr ⟨hf.1, fun n hn => ?_⟩
  rw [hf.2.2] at hn
  rw [List.mem_singleton.mp hn]; exact hx
theorem evS_covers {S : List Int} (h : S ∈ subsL ten) : Covers (evS S) S := fun x hx =>
  ⟨pcI (one1 x), List.mem_map.mpr ⟨one1 x, one_within h hx, rfl⟩, by
    show x ∈ nums (one1 x)
    rw [(F_one x (subs_ten h x hx)).2.2]; simp⟩
theorem weighed_ok {S : List Int} (h : S ∈ subsL ten) : vOf (g_weighed [.val (dl S)]) = some (.own (.lst ((withinT S).map wD))) := by
  have wl := within_len S
  have e : lcM (iSq (callV 1 g_within_of (aLast (sto (eVar 0))))) (tgN 1) (M.ret true) (mkTup (aCons (sto (eVar 1)) (aCons (sto (callD dTuple (aLast (callV 1 g_numbers_of (aLast (sto (eVar 1))))))) (aLast (sto (bin dAdd (callD dLen (aLast (callV 1 g_text_of (aLast (sto (eVar 1)))))) (eC (.int 1)))))))) [1] [.val (dl S), .un] = .ok (.own (.lst ((withinT S).map wD))) [.val (dl S), .un] := by
    refine lc1a iD wD (withinT S) (by simp [retV_of (within_of_ok h)]) (by omega) (by simp) rfl fun i hi => ⟨.val (wD i), ?_, rfl⟩
    have h1 := within110 S i hi
    have h2 := F_wlen i h1
    have dt : dTuple [.list ((nums i).map PyData.int)] = some (.val (tpl (nums i))) := rfl
    have dn : dLen [.str (wd i)] = some (.val (.int (wd i).length)) := by simp only [dLen]; rw [if_pos (by omega)]
    simp [retV_of (F_numbers_of i h1), retV_of (F_text_of i h1), dt, dn, wD, wLen]
  refine vOf_ok (Γ := [.val (dl S), .un]) ?_ (fun _ => nofun)
  unfold g_weighed m_weighed
  simp [ap_fnP, e]
theorem length_of_ok {S : List Int} (h : S ∈ subsL ten) : vOf (g_length_of [.val (dl S)]) = some (.val (.int (lengthT S))) := by
  have wl := within_len S
  have ls := subs_len h
  obtain ⟨kvs', Γ', e, _⟩ := least_ok ls (show (withinT S).length ≤ 1000 by omega) (evS_covers h) 12 S [] (subs_self S) (by omega) Kn.nil
  have dt : dTuple [.list (S.map PyData.int)] = some (.val (tpl S)) := rfl
  have io := io3n (g := g_least_from 12) (f1 := callD dTuple (aLast (eVar 0))) (f2 := callV 1 g_weighed (aLast (sto (eVar 0)))) (f3 := newT) (Γ := [.val (dl S)]) (o := .dT []) (q1 := .val (tpl S)) (q2 := .own (.lst ((withinT S).map wD))) (by simp [dt]) rfl (by simp [retV_of (weighed_ok h)]) rfl rfl e (fun _ => nofun)
  refine vOf_ok (Γ := [.val (dl S)]) ?_ (fun _ => nofun)
  unfold g_length_of m_length_of
  simp [ap_fnP, io, lengthT, lenT]
theorem shortest_length_ok {S : List Int} (h : S ∈ sets) : vOf (g_shortest_length [.val (dl S)]) = some (.val (.int (lengthT S))) := by
  refine vOf_ok (Γ := [.val (dl S)]) ?_ (fun _ => nofun)
  unfold g_shortest_length m_shortest_length
  simp [ap_fnX, retV_of (F_check_set S h), retV_of (length_of_ok (sets_subs h))]
/-! ### the length of a text -/
def costA (A : List Itm) : Int := (A.map wLen).sum
theorem joinL_cost (s : Nat) : ∀ (ps : List (List Nat)), ps ≠ [] → ((TL.joinL [s] ps).length : Int) + 1 = (ps.map fun p => (p.length : Int) + 1).sum
  | [], h => absurd rfl h
  | [p], _ => by simp [TL.joinL]
  | p :: q :: r, _ => by
    have e : TL.joinL [s] (p :: q :: r) = p ++ ([s] ++ TL.joinL [s] (q :: r)) := rfl
    have ih := joinL_cost s (q :: r) (by simp)
    rw [e, List.map_cons, List.sum_cons, ← ih]
    simp
    try omega
theorem text_cost {A : List Itm} (h : A ≠ []) : ((text A).length : Int) + 1 = costA A := by
  have e : (text A).length = (TL.joinL [44] ((A.map wd).map TL.tl)).length := by
    rw [TL.len_tl]
    unfold text
    rw [TL.join_eq, TL.tl_join]
    rfl
  rw [e, joinL_cost 44 _ (by simpa using h)]
  unfold costA
  rw [List.map_map, List.map_map]
  congr 1
  all_goals
    apply List.map_congr_left
    intro i _
    simp only [Function.comp_apply, wLen, TL.len_tl]
theorem wLen_pos (i : Itm) : 0 ≤ wLen i := by unfold wLen; omega
theorem evS_pos (S : List Int) : ∀ p ∈ evS S, 0 ≤ p.2 := fun p hp => by
  obtain ⟨i, _, rfl⟩ := List.mem_map.mp hp
  exact wLen_pos i
theorem cost_map (A : List Itm) : costL (A.map pcI) = costA A := by
  unfold costL costA
  rw [List.map_map]
  rfl
theorem mem_meant_of {A : List Itm} {i : Itm} (hi : i ∈ A) : ∀ n ∈ nums i, n ∈ meantT A := fun n hn => mem_meant.mpr (mem_flat.mpr ⟨i, hi, hn⟩)
theorem covers_meant {A : List Itm} {S : List Int} (h : ∀ n ∈ S, n ∈ meantT A) : Covers (A.map pcI) S := fun x hx => by
  obtain ⟨i, hi, hn⟩ := mem_flat.mp (mem_meant.mp (h x hx))
  exact ⟨pcI i, List.mem_map.mpr ⟨i, hi, rfl⟩, hn⟩
/-- no text of a set is shorter -/
theorem lenT_le {A : List Itm} (hA : ∀ i ∈ A, i ∈ items110) : lenT (meantT A) ≤ costA A := by
  rw [← cost_map]
  refine lenOf_le _ (evS_pos _) _ _ _ (Nat.le_refl _) (fun p hp => ?_) (covers_meant fun n hn => hn)
  obtain ⟨i, hi, rfl⟩ := List.mem_map.mp hp
  exact List.mem_map.mpr ⟨i, mem_within.mpr ⟨hA i hi, mem_meant_of hi⟩, rfl⟩
/-- items of a set that cover it have at least the length -/
theorem lenT_le' {A : List Itm} {S : List Int} (hA : ∀ i ∈ A, i ∈ withinT S) (hc : ∀ n ∈ S, n ∈ meantT A) : lenT S ≤ costA A := by
  rw [← cost_map]
  refine lenOf_le _ (evS_pos _) _ _ _ (Nat.le_refl _) (fun p hp => ?_) (covers_meant hc)
  obtain ⟨i, hi, rfl⟩ := List.mem_map.mp hp
  exact List.mem_map.mpr ⟨i, hA i hi, rfl⟩
theorem lengthT_le {A : List Itm} (hA : ∀ i ∈ A, i ∈ items110) (hne : A ≠ []) : lengthT (meantT A) ≤ (text A).length := by
  have h1 := lenT_le hA
  have h2 := text_cost hne
  unfold lengthT
  omega
/-- some text of a set has its length -/
theorem best_text {S : List Int} (h : S ∈ subsL ten) : ∃ A : List Itm, (∀ i ∈ A, i ∈ withinT S) ∧ meantT A = S ∧ costA A = lenT S := by
  obtain ⟨L, h1, h2, h3⟩ := lenOf_get (evS S) _ S (Nat.le_refl _) (evS_covers h)
  have : ∀ L : List Pc, (∀ p ∈ L, p ∈ evS S) → ∃ A : List Itm, (∀ i ∈ A, i ∈ withinT S) ∧ L = A.map pcI := by
    intro L
    induction L with
    | nil => exact fun _ => ⟨[], by simp, rfl⟩
    | cons p r ih =>
      intro hp
      obtain ⟨A, hA, rfl⟩ := ih fun q hq => hp q (by simp [hq])
      obtain ⟨i, hi, rfl⟩ := List.mem_map.mp (hp p (by simp))
      exact ⟨i :: A, fun j hj => by
        rcases List.mem_cons.mp hj with rfl | hj
        · exact hi
        · exact hA j hj, rfl⟩
  obtain ⟨A, hA, rfl⟩ := this L h1
  refine ⟨A, hA, meant_eq h fun n hn => ⟨fun hf => ?_, fun hs => ?_⟩, ?_⟩
  · obtain ⟨i, hi, hni⟩ := mem_flat.mp hf
    exact (mem_within.mp (hA i hi)).2 n hni
  · obtain ⟨p, hp, hnp⟩ := h2 n hs
    obtain ⟨i, hi, rfl⟩ := List.mem_map.mp hp
    exact mem_flat.mpr ⟨i, hi, hnp⟩
  · rw [← cost_map]; exact h3
theorem meant_nil : meantT [] = [] := by decide
theorem best_ne {S : List Int} (hn : S ≠ []) {A : List Itm} (h : meantT A = S) : A ≠ [] := fun z => by
  rw [z, meant_nil] at h
  exact hn h.symm
/-! ### the functions of lengths -/
theorem text_lenD {A : List Itm} (hA : ∀ i ∈ A, i ∈ items110) (hl : A.length ≤ 1000) : dLen [.str (text A)] = some (.val (.int (text A).length)) := by
  have := text_len hA
  simp only [dLen]; rw [if_pos (by omega)]
theorem is_shortest_ok {A : List Itm} (hA : ∀ i ∈ A, i ∈ items110) (hne : A ≠ []) (hl : A.length ≤ 300) : vOf (g_is_shortest [.val (.str (text A))]) = some (.val (.bool (((text A).length : Int) == lengthT (meantT A)))) := by
  refine vOf_ok (Γ := [.val (.str (text A))]) ?_ (fun _ => nofun)
  unfold g_is_shortest m_is_shortest
  simp [ap_fnX, retV_of (check_text_ok hA hne (by omega)), retV_of (items_in_ok hA hne (by omega)), retV_of (set_of_ok hA hl), retV_of (length_of_ok (meant_subs A)), text_lenD hA (show A.length ≤ 1000 by omega)]
theorem shorter_by_ok {A : List Itm} (hA : ∀ i ∈ A, i ∈ items110) (hne : A ≠ []) (hl : A.length ≤ 300) : vOf (g_shorter_by [.val (.str (text A))]) = some (.val (.int ((text A).length - lengthT (meantT A)))) := by
  refine vOf_ok (Γ := [.val (.str (text A))]) ?_ (fun _ => nofun)
  unfold g_shorter_by m_shorter_by
  simp [ap_fnX, retV_of (check_text_ok hA hne (by omega)), retV_of (items_in_ok hA hne (by omega)), retV_of (set_of_ok hA hl), retV_of (length_of_ok (meant_subs A)), text_lenD hA (show A.length ≤ 1000 by omega)]
theorem spare_signs_ok {S : List Int} (h : S ∈ sets) : vOf (g_spare_signs [.val (dl S)]) = some (.val (.int ((text (runsT S)).length - lengthT S))) := by
  refine vOf_ok (Γ := [.val (dl S)]) ?_ (fun _ => nofun)
  have hs := sets_subs h
  have rl := runs_len hs
  unfold g_spare_signs m_spare_signs
  simp [ap_fnX, retV_of (F_check_set S h), retV_of (plain_of_ok hs), retV_of (length_of_ok hs), text_lenD (runs110 hs) (show (runsT S).length ≤ 1000 by omega)]
/-! ### sums of sets -/
theorem cost_app (A B : List Itm) : costA (A ++ B) = costA A + costA B := by simp [costA]
theorem within_mono {S T : List Int} (h : ∀ n ∈ S, n ∈ T) : ∀ i ∈ withinT S, i ∈ withinT T := fun i hi => by
  obtain ⟨h1, h2⟩ := mem_within.mp hi
  exact mem_within.mpr ⟨h1, fun n hn => h n (h2 n hn)⟩
theorem lenT_both {S T : List Int} (hS : S ∈ subsL ten) (hT : T ∈ subsL ten) : lenT (bothT S T) ≤ lenT S + lenT T := by
  obtain ⟨A, a1, a2, a3⟩ := best_text hS
  obtain ⟨B, b1, b2, b3⟩ := best_text hT
  have e := lenT_le (A := A ++ B) (mem_app (fun i hi => within110 S i (a1 i hi)) fun i hi => within110 T i (b1 i hi))
  rw [meant_app, a2, b2, cost_app, a3, b3] at e
  exact e
end Rt
namespace Rt
open PySem PySem.Spec PyProof.Rows L2
/-! ### sorted lists of unlike numbers -/
theorem intLe_total : PySem.W.TotalLe intLe where
  trans a b c h1 h2 := by unfold intLe at *; simp only [decide_eq_true_eq] at *; omega
  total a b := by unfold intLe; simp only [decide_eq_true_eq]; omega
theorem isort_perm (l : List Int) : (isort intLe l).Perm l := by
  rw [isort_eq intLe_total]
  exact List.mergeSort_perm _ _
theorem isort_row {l : List Int} (nd : l.Nodup) : (isort intLe l).Pairwise (· < ·) := by
  have h1 : (isort intLe l).Nodup := (isort_perm l).nodup_iff.mpr nd
  have h2 : (isort intLe l).Pairwise (fun a b => intLe a b = true) := by
    rw [isort_eq intLe_total]
    exact List.pairwise_mergeSort intLe_total.trans (fun a b => by rcases intLe_total.total a b with h | h <;> simp [h]) l
  have h3 := h2.and h1
  refine h3.imp fun {a b} h => ?_
  have h4 := h.1
  unfold intLe at h4
  simp only [decide_eq_true_eq] at h4
  have := h.2
  omega
theorem ten_row : ten.Pairwise (· < ·) := by decide
theorem isort_ten {l : List Int} (nd : l.Nodup) (h : ∀ n ∈ l, n ∈ ten) : isort intLe l = ten.filter fun n => decide (n ∈ l) := by
  refine sorted_unique (isort_row nd) (ten_row.filter _) fun n => ?_
  rw [(isort_perm l).mem_iff, List.mem_filter, decide_eq_true_eq]
  exact ⟨fun hn => ⟨h n hn, hn⟩, fun hn => hn.2⟩
theorem set_nodup {S : List Int} (h : S ∈ subsL ten) : S.Nodup := by
  rw [subs_filter_eq ten_nodup h]
  exact ten_nodup.filter _
theorem sort_add {S : List Int} (h : S ∈ subsL ten) {n : Int} (hn : n ∈ ten) (ho : n ∉ S) : isort intLe (S ++ [n]) = bothT S [n] := by
  rw [isort_ten]
  · unfold bothT
    apply List.filter_congr
    intro m _
    by_cases h1 : m ∈ S <;> by_cases h2 : m = n <;> simp [h1, h2]
  · rw [List.nodup_append]
    refine ⟨set_nodup h, by simp, fun a ha b hb => ?_⟩
    simp at hb
    subst hb
    exact fun z => ho (z ▸ ha)
  · exact mem_appI (subs_ten h) fun m hm => by simp at hm; subst hm; exact hn
/-! ### a number more or less -/
theorem single_sets {n : Int} (hn : n ∈ ten) : [n] ∈ sets := mem_sets (subs_single ten n hn) (by simp)
theorem int_ten {n : Int} (h : n ∈ ten) : vOf (g_is_int [.val (.int n), .val (.int 1), .val (.int 10)]) = some (.val (.bool true)) := by
  have := ten_le h
  rw [is_int_ok, decide_eq_true this.1, decide_eq_true this.2]
  rfl
theorem with_number_ok {S : List Int} (hS : S ∈ sets) {n : Int} (hn : n ∈ ten) : vOf (g_with_number [.val (dl S), .val (.int n)]) = some (.own (.lst ((bothT S [n]).map PyData.int))) := by
  have l1 := subs_len (sets_subs hS)
  have ad := add_ints (a := S) (b := [n]) (by simp; omega)
  have hs := sSet_ok (f := bin dAdd (eVar 0) (mkLst (aLast (sto (eVar 1))))) (Γ := [.val (dl S), .val (.int n)]) (Γ1 := [.val (dl S), .val (.int n)]) (r := .own (.lst ((S ++ [n]).map PyData.int))) (by
    simp only [List.map_cons, List.map_nil] at ad
    simp [ad, -dAdd_list]) rfl (mem_appI (subs_ten (sets_subs hS)) (fun m hm => by simp at hm; subst hm; exact hn)) (by simp; omega)
  have e : (ten.filter fun m => decide (m ∈ S ++ [n])) = bothT S [n] := by
    unfold bothT
    apply List.filter_congr
    intro m _
    simp
  rw [e] at hs
  refine vOf_ok (Γ := [.val (dl S), .val (.int n)]) ?_ (fun _ => nofun)
  unfold g_with_number m_with_number
  simp [ap_fnX, retV_of (F_check_set S hS), retV_of (int_ten hn), hs, -ap_sSet]
def woT (S : List Int) (n : Int) : List Int := S.filter fun m => !decide (m = n)
theorem wo_subs {S : List Int} (h : S ∈ subsL ten) (n : Int) : woT S n ∈ subsL ten := filter_subs _ h
theorem without_number_ok {S : List Int} (hS : S ∈ sets) {n : Int} (hn : n ∈ ten) : (n ∈ S ∧ woT S n ≠ [] ∧ vOf (g_without_number [.val (dl S), .val (.int n)]) = some (.own (.lst ((woT S n).map PyData.int)))) ∨ ((n ∉ S ∨ woT S n = []) ∧ eOf (g_without_number [.val (dl S), .val (.int n)]) = some 4) := by
  have l1 := subs_len (sets_subs hS)
  by_cases hm : n ∈ S
  · by_cases h1 : S.length = 1
    · have hw : woT S n = [] := by
        match S, h1, hm with
        | [a], _, hm =>
          have : n = a := by simpa using hm
          simp [woT, this]
      refine .inr ⟨.inr hw, eOf_ok (Γ := [.val (dl S), .val (.int n), .un]) ?_⟩
      unfold g_without_number m_without_number
      simp [ap_fnX, retV_of (F_check_set S hS), retV_of (int_ten hn), in_dl, hm, h1]
    · have hw : woT S n ≠ [] := by
        intro z
        unfold woT at z
        rw [List.filter_eq_nil_iff] at z
        have al : ∀ m ∈ S, m = n := fun m hm => by simpa using z m hm
        have nd := set_nodup (sets_subs hS)
        have : S.length ≤ [n].length := nodup_len nd fun m hm => by simp [al m hm]
        have h0 := List.length_pos_of_mem hm
        simp at this
        omega
      have c : lcM (iSq (eVar 0)) (tgN 2) (tst (bin dNe (eVar 2) (eVar 1))) (eVar 2) [2] [.val (dl S), .val (.int n), .un] = .ok (.own (.lst ((woT S n).map PyData.int))) [.val (dl S), .val (.int n), .un] :=
        lc1 PyData.int (fun m => !decide (m = n)) PyData.int S (by simp) (by omega) (by simp) rfl fun m hm => ⟨by
          by_cases hq : m = n <;> simp [hq], fun _ => ⟨.bor 2, by simp, by simp⟩⟩
      refine .inl ⟨hm, hw, vOf_ok (Γ := [.val (dl S), .val (.int n), .un]) ?_ (fun _ => nofun)⟩
      have h2 : ¬ ((S.length : Int) = 1) := by omega
      unfold g_without_number m_without_number
      simp [ap_fnX, retV_of (F_check_set S hS), retV_of (int_ten hn), in_dl, hm, h1, h2, c]
  · refine .inr ⟨.inl hm, eOf_ok (Γ := [.val (dl S), .val (.int n), .un]) ?_⟩
    unfold g_without_number m_without_number
    simp [ap_fnX, retV_of (F_check_set S hS), retV_of (int_ten hn), in_dl, hm]
/-! ### gains -/
def gainT (S : List Int) (n : Int) : Int := lengthT (bothT S [n]) - lengthT S
def gainsT (S : List Int) : List (Int × Int) := (outT ten S).map fun n => (n, gainT S n)
theorem gains_loop {S : List Int} (hS : S ∈ sets) : ∀ (T : List Int) (acc : List (Int × Int)) (z3 : Sl), (∀ n ∈ T, n ∈ ten) → acc.length + T.length < 1000000 →
    ∃ z3', forL (tgN 3) (sIf (tst (bin dNotIn (eVar 3) (eVar 0))) (sDrop (appM 2 (mkTup (aCons (sto (eVar 3)) (aLast (sto (bin dSub (callV 1 g_length_of (aLast (sto (callD dSorted (aLast (bin dAdd (eVar 0) (mkLst (aLast (sto (eVar 3)))))))))) (eVar 1)))))))) (sNx)) (T.map PyData.int) [.val (dl S), .val (.int (lengthT S)), .own none (.lst (acc.map pD)), z3] =
      .ok .nx [.val (dl S), .val (.int (lengthT S)), .own none (.lst ((acc ++ (outT T S).map fun n => (n, gainT S n)).map pD)), z3']
  | [], acc, z3, _, _ => ⟨z3, by simp [outT]⟩
  | n :: T, acc, z3, hT, ha => by
    have ha : acc.length + (T.length + 1) < 1000000 := by simpa using ha
    have l1 := subs_len (sets_subs hS)
    by_cases hm : n ∈ S
    · obtain ⟨a, q⟩ := gains_loop hS T acc (.val (.int n)) (fun m hm => hT m (by simp [hm])) (by omega)
      have e : outT (n :: T) S = outT T S := by simp [outT, hm]
      refine ⟨a, ?_⟩
      rw [e, ← q, List.map_cons, for_cons]
      simp [in_dl, hm]
    · have e : outT (n :: T) S = n :: outT T S := by simp [outT, hm]
      obtain ⟨a, q⟩ := gains_loop hS T (acc ++ [(n, gainT S n)]) (.val (.int n)) (fun m hm => hT m (by simp [hm])) (by simp; omega)
      have hn := hT n (by simp)
      have ad := add_ints (a := S) (b := [n]) (by simp; omega)
      simp only [List.map_cons, List.map_nil] at ad
      have so := sorted_ints (ns := S ++ [n]) (by simp; omega)
      rw [sort_add (sets_subs hS) hn hm] at so
      have ln := length_of_ok (both_subs S [n])
      refine ⟨a, ?_⟩
      have hl : acc.length < 1000000 := by omega
      have b : sIf (tst (bin dNotIn (eVar 3) (eVar 0))) (sDrop (appM 2 (mkTup (aCons (sto (eVar 3)) (aLast (sto (bin dSub (callV 1 g_length_of (aLast (sto (callD dSorted (aLast (bin dAdd (eVar 0) (mkLst (aLast (sto (eVar 3)))))))))) (eVar 1)))))))) (sNx) [.val (dl S), .val (.int (lengthT S)), .own none (.lst (acc.map pD)), .val (.int n)] = .ok .nx [.val (dl S), .val (.int (lengthT S)), .own none (.lst ((acc ++ [(n, gainT S n)]).map pD)), .val (.int n)] := by
        generalize S ++ [n] = V at ad so
        simp [in_dl, hm, ad, so, retV_of ln, hl, -dAdd_list, pD, gainT]
      rw [List.map_cons, for3 (Γ1 := [.val (dl S), .val (.int (lengthT S)), .own none (.lst (acc.map pD)), .val (.int n)]) rfl b q, e]
      simp
theorem gains_ok {S : List Int} (hS : S ∈ sets) : vOf (g_gains [.val (dl S)]) = some (.own (.lst ((gainsT S).map pD))) := by
  obtain ⟨a, q⟩ := gains_loop hS ten [] .un (fun n h => h) (by decide)
  have e : m_gains ([.val (dl S)] ++ List.replicate 3 .un) = .ok (.ret (.own (.lst ((gainsT S).map pD)))) [.val (dl S), .val (.int (lengthT S)), .un, a] := by
    unfold m_gains
    refine sq (Γ1 := [.val (dl S), .un, .un, .un]) (by simp [retV_of (F_check_set S hS)]) (sq (Γ1 := [.val (dl S), .val (.int (lengthT S)), .un, .un]) (by simp [retV_of (length_of_ok (sets_subs hS))]) (sq (Γ1 := [.val (dl S), .val (.int (lengthT S)), .own none (.lst []), .un]) (by simp) (sq (Γ1 := [.val (dl S), .val (.int (lengthT S)), .own none (.lst ((gainsT S).map pD)), a]) ?_ (by simp))))
    rw [ap_sFor]
    have : iRg rg2 (aCons (eC (.int 1)) (aLast (bin dAdd (eC (.int 10)) (eC (.int 1))))) [.val (dl S), .val (.int (lengthT S)), .own none (.lst []), .un] = .ok (ten.map PyData.int) [.val (dl S), .val (.int (lengthT S)), .own none (.lst []), .un] := by simp [rg_ten]
    rw [this, and_ok]
    exact q
  refine vOf_ok (Γ := [.val (dl S), .val (.int (lengthT S)), .un, a]) ?_ (fun _ => nofun)
  unfold g_gains
  rw [ap_fnX, e, finX_ret]
def leastG (S : List Int) : Int := minL ((gainsT S).map (·.2))
def bestsT (S : List Int) : List Int := ((gainsT S).filter fun p => p.2 == leastG S).map (·.1)
theorem dMin_ints {ns : List Int} (h : ns ≠ []) : dMin [.list (ns.map PyData.int)] = some (.val (.int (minL ns))) := by
  unfold dMin
  simp only [intsOf_map]
  first
    | (rw [if_pos (by simpa using h)]; done)
    | (cases ns with
       | nil => exact absurd rfl h
       | cons a r => rfl)
theorem gains_lc {Γ : En} {i a b : Nat} {G : List (Int × Int)} {t : M Bool} {p : Int × Int → Bool} {f : M R} {g : Int × Int → D} (hl : G.length ≤ 1000000) (hi : Γ[i]? = some (.val (.list (G.map pD)))) (hb : backE Γ (wipeE Γ [a, b]) [a, b] = Γ) (hal : a < Γ.length) (hbl : b < Γ.length) (hab : a ≠ b)
    (h : ∀ q ∈ G, t ((Γ.set a (.val (.int q.1))).set b (.val (.int q.2))) = .ok (p q) ((Γ.set a (.val (.int q.1))).set b (.val (.int q.2))) ∧ (p q = true → ∃ r, f ((Γ.set a (.val (.int q.1))).set b (.val (.int q.2))) = .ok r ((Γ.set a (.val (.int q.1))).set b (.val (.int q.2))) ∧ stD r ((Γ.set a (.val (.int q.1))).set b (.val (.int q.2))) = .ok (g q) ((Γ.set a (.val (.int q.1))).set b (.val (.int q.2))))) :
    lcM (iSq (eVar i)) (tgT [a, b]) t f [a, b] Γ = .ok (.own (.lst ((G.filter p).map g))) Γ := by
  refine lcG pD p g G (by simp [hi]) hl hb fun q hq => ⟨(Γ.set a (.val (.int q.1))).set b (.val (.int q.2)), ?_, ?_, h q hq⟩
  · have e : tgT [a, b] (pD q) (wipeE Γ [a, b]) = oB (tgN a (.int q.1) ((Γ.set b .un).set a .un)) fun Γ => oB (tgN b (.int q.2) Γ) fun Γ => some Γ := by
      simp only [pD, ap_tgT, ap_tgNs, wipeE]
      congr 1
      funext Γ
      rw [ap_tgNs]
      rfl
    rw [e, ap_tgN, if_pos (by simpa using hal), oB_some, ap_tgN, if_pos (by simpa using hbl), oB_some]
    congr 1
    rw [List.set_set, List.set_comm (Sl.un) (Sl.val (.int q.1)) (Ne.symm hab), List.set_set]
  · show ((((Γ.set a (.val (.int q.1))).set b (.val (.int q.2))).set b .un).set a .un) = (Γ.set b .un).set a .un
    rw [List.set_set, List.set_comm (Sl.val (.int q.1)) (Sl.un) hab, List.set_set]
/-! ### the best number -/
theorem gains_len (S : List Int) : (gainsT S).length ≤ 10 := by
  unfold gainsT
  rw [List.length_map]
  exact List.length_filter_le _ ten
theorem best_number_ok {S : List Int} (hS : S ∈ sets) : (outT ten S ≠ [] ∧ ∃ n r, bestsT S = n :: r ∧ vOf (g_best_number [.val (dl S)]) = some (.val (.int n))) ∨ (outT ten S = [] ∧ eOf (g_best_number [.val (dl S)]) = some 4) := by
  have gl := gains_len S
  have c0 := retV_of (F_check_set S hS)
  have c1 := retV_of (gains_ok hS)
  have ge : dEq (.list ((gainsT S).map pD)) (.list []) = some (.val (.bool (decide (gainsT S = [])))) := eq_pd (gainsT S) []
  by_cases h : outT ten S = []
  · refine .inr ⟨h, eOf_ok (Γ := [.val (dl S), .val (.list ((gainsT S).map pD)), .un, .un, .un]) ?_⟩
    have hg : gainsT S = [] := by unfold gainsT; rw [h]; rfl
    rw [decide_eq_true hg] at ge
    unfold g_best_number m_best_number
    simp [ap_fnX, c0, c1, ge]
  · have hg : gainsT S ≠ [] := by unfold gainsT; simpa using h
    rw [decide_eq_false hg] at ge
    have hm : (gainsT S).map (·.2) ≠ [] := by simpa using hg
    have mm := minL_mem hm
    have hb : bestsT S ≠ [] := by
      obtain ⟨p, hp, e⟩ := List.mem_map.mp mm.1
      intro z
      have : p.1 ∈ bestsT S := List.mem_map.mpr ⟨p, List.mem_filter.mpr ⟨hp, by simpa [leastG] using e⟩, rfl⟩
      rw [z] at this
      cases this
    obtain ⟨n, r, hnr⟩ := List.exists_cons_of_ne_nil hb
    have l1 : lcM (iSq (eVar 1)) (tgT [3, 4]) (M.ret true) (eVar 4) [3, 4] [.val (dl S), .val (.list ((gainsT S).map pD)), .un, .un, .un] = .ok (.own (.lst (((gainsT S).map (·.2)).map PyData.int))) [.val (dl S), .val (.list ((gainsT S).map pD)), .un, .un, .un] := by
      have := gains_lc (Γ := [.val (dl S), .val (.list ((gainsT S).map pD)), .un, .un, .un]) (i := 1) (a := 3) (b := 4) (G := gainsT S) (t := M.ret true) (p := fun _ => true) (f := eVar 4) (g := fun q => .int q.2) (by omega) rfl rfl (by simp) (by simp) (by decide) fun q hq => ⟨rfl, fun _ => ⟨.bor 4, by simp, by simp⟩⟩
      rw [this, List.filter_eq_self.mpr fun _ _ => rfl, List.map_map]
      rfl
    have l2 : lcM (iSq (eVar 1)) (tgT [3, 4]) (tst (bin dEq (eVar 4) (eVar 2))) (eVar 3) [3, 4] [.val (dl S), .val (.list ((gainsT S).map pD)), .val (.int (leastG S)), .un, .un] = .ok (.own (.lst ((bestsT S).map PyData.int))) [.val (dl S), .val (.list ((gainsT S).map pD)), .val (.int (leastG S)), .un, .un] := by
      have := gains_lc (Γ := [.val (dl S), .val (.list ((gainsT S).map pD)), .val (.int (leastG S)), .un, .un]) (i := 1) (a := 3) (b := 4) (G := gainsT S) (t := tst (bin dEq (eVar 4) (eVar 2))) (p := fun q => q.2 == leastG S) (f := eVar 3) (g := fun q => .int q.1) (by omega) rfl rfl (by simp) (by simp) (by decide) fun q hq => ⟨by simp, fun _ => ⟨.bor 3, by simp, by simp⟩⟩
      rw [this]
      unfold bestsT
      rw [List.map_map]
      rfl
    have dm := dMin_ints hm
    refine .inl ⟨h, n, r, hnr, vOf_ok (Γ := [.val (dl S), .val (.list ((gainsT S).map pD)), .val (.int (leastG S)), .un, .un]) ?_ (fun _ => nofun)⟩
    have e : m_best_number ([.val (dl S)] ++ List.replicate 4 .un) = .ok (.ret (.val (.int n))) [.val (dl S), .val (.list ((gainsT S).map pD)), .val (.int (leastG S)), .un, .un] := by
      unfold m_best_number
      refine sq (Γ1 := [.val (dl S), .un, .un, .un, .un]) (by simp [c0]) (sq (Γ1 := [.val (dl S), .val (.list ((gainsT S).map pD)), .un, .un, .un]) (by simp [c1]) (sq (Γ1 := [.val (dl S), .val (.list ((gainsT S).map pD)), .un, .un, .un]) (by simp [ge]) (sq (Γ1 := [.val (dl S), .val (.list ((gainsT S).map pD)), .val (.int (leastG S)), .un, .un]) ?_ ?_)))
      · rw [ap_sAsg, ap_sto, ap_callD, ap_aLast, l1]
        have : ∀ Γ : En, oOk Γ (oB (rdAll Γ [.own (.lst (((gainsT S).map (·.2)).map PyData.int))]) dMin) = .ok (.val (.int (leastG S))) Γ := fun Γ => by
          have : rdAll Γ [.own (.lst (((gainsT S).map (·.2)).map PyData.int))] = some [.list (((gainsT S).map (·.2)).map PyData.int)] := rfl
          rw [this, oB_some, dm]
          rfl
        simp only [and_ok, this]
        rfl
      · rw [ap_sRet, ap_bin, l2, hnr]
        simp [at0]
    unfold g_best_number
    rw [ap_fnX, e, finX_ret]
end Rt
namespace Rt
open PySem PySem.Spec PyProof.Rows L2
/-! ### longest_with -/
def endT (S : List Int) (st : Int) : Nat → Int → Int
  | 0, l => l
  | n + 1, l => if decide (l + st ∈ S) = true then endT S st n (l + st) else l
theorem end_prop {S : List Int} {st : Int} (hst : 1 ≤ st) : ∀ (n : Nat) (f l : Int), f ≤ l → (l - f) % st = 0 → (l = f ∨ l ∈ S) → f ≤ endT S st n l ∧ (endT S st n l - f) % st = 0 ∧ (endT S st n l = f ∨ endT S st n l ∈ S)
  | 0, f, l, h1, h2, h3 => ⟨h1, h2, h3⟩
  | n + 1, f, l, h1, h2, h3 => by
    unfold endT
    split
    · rename_i h
      refine end_prop hst n f (l + st) (by omega) ?_ (.inr (of_decide_eq_true h))
      have : l + st - f = (l - f) + st := by omega
      rw [this, Int.add_emod_right]
      exact h2
    · exact ⟨h1, h2, h3⟩
theorem end_wh {S : List Int} (hS : ∀ n ∈ S, n ∈ ten) (st : Int) (hst : 1 ≤ st) (a1 a2 a3 a6 : Sl) : ∀ (n : Nat) (l : Int), 10 ≤ l + n →
    sWhile (tst (bin dIn (bin dAdd (eVar 5) (eVar 4)) (eVar 0))) (augM 5 (eVar 4)) (n + 1) [.val (dl S), a1, a2, a3, .val (.int st), .val (.int l), a6] = .ok .nx [.val (dl S), a1, a2, a3, .val (.int st), .val (.int (endT S st (n + 1) l)), a6]
  | n, l, hl => by
    by_cases hm : l + st ∈ S
    · have := ten_le (hS _ hm)
      cases n with
      | zero => omega
      | succ n =>
        have ih := end_wh hS st hst a1 a2 a3 a6 n (l + st) (by omega)
        rw [wh_step (Γ1 := [.val (dl S), a1, a2, a3, .val (.int st), .val (.int (l + st)), a6]) (by simp [in_dl, hm]) (by simp), ih]
        have e : endT S st (n + 1 + 1) l = endT S st (n + 1) (l + st) := by
          rw [endT, if_pos (decide_eq_true hm)]
        rw [e]
    · rw [wh_stop (by simp [in_dl, hm])]
      have e : endT S st (n + 1) l = l := by rw [endT, if_neg (by simpa using hm)]
      rw [e]
def ownT (f l st : Int) : List Int := if f < l then nums (f, l, st) else [f]
def nine : List Int := [1, 2, 3, 4, 5, 6, 7, 8, 9]
theorem F_chain : (ten.all fun f => ten.all fun l => nine.all fun st => !(decide (f < l) && decide ((l - f) % st = 0)) || items110.contains (f, l, st)) = true := by decide +kernel
theorem chain110 {f l st : Int} (hf : f ∈ ten) (hl : l ∈ ten) (hs : st ∈ nine) (h1 : f < l) (h2 : (l - f) % st = 0) : (f, l, st) ∈ items110 := by
  have := List.all_eq_true.mp (List.all_eq_true.mp (List.all_eq_true.mp F_chain f hf) l hl) st hs
  rw [decide_eq_true h1, decide_eq_true h2] at this
  exact List.contains_iff_mem.mp (by simpa using this)
def lwS (S : List Int) (n f : Int) (b : Int) (st : Int) : Int := if decide (n ∈ ownT f (endT S st 40 f) st) = true then (if ((ownT f (endT S st 40 f) st).length : Int) > b then ((ownT f (endT S st 40 f) st).length : Int) else b) else b
def longT (S : List Int) (n : Int) : Int := S.foldl (fun b f => nine.foldl (lwS S n f) b) 1
theorem nine_le {st : Int} (h : st ∈ nine) : 1 ≤ st ∧ st ≤ 9 := by simp [nine] at h; omega
theorem own_len (f l st : Int) : (ownT f l st).length ≤ 10 := by
  unfold ownT
  split
  · exact nums_len _
  · simp
theorem lw_row {S : List Int} (hS : ∀ n ∈ S, n ∈ ten) (n f : Int) (hf : f ∈ S) : ∀ (T : List Int) (b : Int) (z4 z5 z6 : Sl), (∀ st ∈ T, st ∈ nine) →
    ∃ z4' z5' z6', forL (tgN 4) (sSeq (sAsg 5 (eVar 3)) (sSeq (sWhile (tst (bin dIn (bin dAdd (eVar 5) (eVar 4)) (eVar 0))) (augM 5 (eVar 4)) 40) (sSeq (sAsg 6 (sto (vIf (tst (bin dGt (eVar 5) (eVar 3))) (callV 1 g_numbers_of (aLast (sto (mkTup (aCons (sto (eVar 3)) (aCons (sto (eVar 5)) (aLast (sto (eVar 4))))))))) (mkLst (aLast (sto (eVar 3))))))) (sAsg 2 (sto (vIf (tst (bin dIn (eVar 1) (eVar 6))) (callD dMax2 (aCons (eVar 2) (aLast (callD dLen (aLast (eVar 6)))))) (eVar 2))))))) (T.map PyData.int)
      [.val (dl S), .val (.int n), .val (.int b), .val (.int f), z4, z5, z6] = .ok .nx [.val (dl S), .val (.int n), .val (.int (T.foldl (lwS S n f) b)), .val (.int f), z4', z5', z6']
  | [], b, z4, z5, z6, _ => ⟨z4, z5, z6, by simp⟩
  | st :: T, b, z4, z5, z6, hT => by
    have hst := nine_le (hT st (by simp))
    have f10 := ten_le (hS f hf)
    have hp := end_prop hst.1 (S := S) 40 f f (Int.le_refl _) (by simp) (.inl rfl)
    have w := end_wh hS st hst.1 (.val (.int n)) (.val (.int b)) (.val (.int f)) z6 39 f (by omega)
    have w : sWhile (tst (bin dIn (bin dAdd (eVar 5) (eVar 4)) (eVar 0))) (augM 5 (eVar 4)) 40 [.val (dl S), .val (.int n), .val (.int b), .val (.int f), .val (.int st), .val (.int f), z6] = .ok .nx [.val (dl S), .val (.int n), .val (.int b), .val (.int f), .val (.int st), .val (.int (endT S st 40 f)), z6] := w
    have hb : lwS S n f b st = if decide (n ∈ ownT f (endT S st 40 f) st) = true then (if ((ownT f (endT S st 40 f) st).length : Int) > b then ((ownT f (endT S st 40 f) st).length : Int) else b) else b := rfl
    generalize endT S st 40 f = l at w hp hb
    obtain ⟨a, c, d, q⟩ := lw_row hS n f hf T (lwS S n f b st) (.val (.int st)) (.val (.int l)) (.val (dl (ownT f l st))) (fun s hs => hT s (by simp [hs]))
    refine ⟨a, c, d, ?_⟩
    have s3 : sAsg 6 (sto (vIf (tst (bin dGt (eVar 5) (eVar 3))) (callV 1 g_numbers_of (aLast (sto (mkTup (aCons (sto (eVar 3)) (aCons (sto (eVar 5)) (aLast (sto (eVar 4))))))))) (mkLst (aLast (sto (eVar 3)))))) [.val (dl S), .val (.int n), .val (.int b), .val (.int f), .val (.int st), .val (.int l), z6] = .ok .nx [.val (dl S), .val (.int n), .val (.int b), .val (.int f), .val (.int st), .val (.int l), .val (dl (ownT f l st))] := by
      by_cases hfl : f < l
      · have hl : l ∈ S := by
          rcases hp.2.2 with h | h
          · omega
          · exact h
        have hc := chain110 (hS f hf) (hS l hl) (hT st (by simp)) hfl hp.2.1
        have nf := F_numbers_of _ hc
        have hi : iD (f, l, st) = .tuple [.int f, .int l, .int st] := rfl
        rw [hi] at nf
        have ho : ownT f l st = nums (f, l, st) := by unfold ownT; rw [if_pos hfl]
        rw [ho]
        simp [hfl, retV_of nf]
      · have ho : ownT f l st = [f] := by unfold ownT; rw [if_neg hfl]
        rw [ho]
        simp [hfl]
    have ol := own_len f l st
    have s4 : sAsg 2 (sto (vIf (tst (bin dIn (eVar 1) (eVar 6))) (callD dMax2 (aCons (eVar 2) (aLast (callD dLen (aLast (eVar 6)))))) (eVar 2))) [.val (dl S), .val (.int n), .val (.int b), .val (.int f), .val (.int st), .val (.int l), .val (dl (ownT f l st))] = .ok .nx [.val (dl S), .val (.int n), .val (.int (lwS S n f b st)), .val (.int f), .val (.int st), .val (.int l), .val (dl (ownT f l st))] := by
      rw [hb]
      generalize ownT f l st = V
      have d2 : ∀ i j : Int, dMax2 [.int i, .int j] = some (.val (.int (if j > i then j else i))) := fun i j => rfl
      by_cases hn : n ∈ V
      · simp [in_dl, hn, d2]
      · simp [in_dl, hn]
    rw [List.map_cons, List.foldl_cons]
    refine for3 (Γ1 := [.val (dl S), .val (.int n), .val (.int b), .val (.int f), .val (.int st), z5, z6]) rfl (sq (Γ1 := [.val (dl S), .val (.int n), .val (.int b), .val (.int f), .val (.int st), .val (.int f), z6]) (by simp) (sq w (sq s3 s4))) q
theorem rg_nine : rg2 [.int 1, .int 10] = some (nine.map PyData.int) := by kernel_rfl
theorem lw_loop {S : List Int} (hS : ∀ n ∈ S, n ∈ ten) (n : Int) : ∀ (T : List Int) (b : Int) (z3 z4 z5 z6 : Sl), (∀ f ∈ T, f ∈ S) →
    ∃ z3' z4' z5' z6', forL (tgN 3) (sFor (iRg rg2 (aCons (eC (.int 1)) (aLast (eC (.int 10))))) (tgN 4) (sSeq (sAsg 5 (eVar 3)) (sSeq (sWhile (tst (bin dIn (bin dAdd (eVar 5) (eVar 4)) (eVar 0))) (augM 5 (eVar 4)) 40) (sSeq (sAsg 6 (sto (vIf (tst (bin dGt (eVar 5) (eVar 3))) (callV 1 g_numbers_of (aLast (sto (mkTup (aCons (sto (eVar 3)) (aCons (sto (eVar 5)) (aLast (sto (eVar 4))))))))) (mkLst (aLast (sto (eVar 3))))))) (sAsg 2 (sto (vIf (tst (bin dIn (eVar 1) (eVar 6))) (callD dMax2 (aCons (eVar 2) (aLast (callD dLen (aLast (eVar 6)))))) (eVar 2)))))))) (T.map PyData.int)
      [.val (dl S), .val (.int n), .val (.int b), z3, z4, z5, z6] = .ok .nx [.val (dl S), .val (.int n), .val (.int (T.foldl (fun b f => nine.foldl (lwS S n f) b) b)), z3', z4', z5', z6']
  | [], b, z3, z4, z5, z6, _ => ⟨z3, z4, z5, z6, by simp⟩
  | f :: T, b, z3, z4, z5, z6, hT => by
    obtain ⟨a, c, d, q⟩ := lw_row hS n f (hT f (by simp)) nine b z4 z5 z6 (fun s h => h)
    obtain ⟨a2, c2, d2, e2, q2⟩ := lw_loop hS n T (nine.foldl (lwS S n f) b) (.val (.int f)) a c d (fun g hg => hT g (by simp [hg]))
    refine ⟨a2, c2, d2, e2, ?_⟩
    rw [List.map_cons, List.foldl_cons]
    refine for3 (Γ1 := [.val (dl S), .val (.int n), .val (.int b), .val (.int f), z4, z5, z6]) rfl ?_ q2
    rw [ap_sFor]
    have : iRg rg2 (aCons (eC (.int 1)) (aLast (eC (.int 10)))) [.val (dl S), .val (.int n), .val (.int b), .val (.int f), z4, z5, z6] = .ok (nine.map PyData.int) [.val (dl S), .val (.int n), .val (.int b), .val (.int f), z4, z5, z6] := by simp [rg_nine]
    rw [this, and_ok]
    exact q
theorem longest_with_ok {S : List Int} (hS : S ∈ sets) {n : Int} (hn : n ∈ ten) : (n ∈ S ∧ vOf (g_longest_with [.val (dl S), .val (.int n)]) = some (.val (.int (longT S n)))) ∨ (n ∉ S ∧ eOf (g_longest_with [.val (dl S), .val (.int n)]) = some 4) := by
  by_cases hm : n ∈ S
  · obtain ⟨a, b, c, d, q⟩ := lw_loop (subs_ten (sets_subs hS)) n S 1 .un .un .un .un (fun f h => h)
    refine .inl ⟨hm, vOf_ok (Γ := [.val (dl S), .val (.int n), .val (.int (longT S n)), a, b, c, d]) ?_ (fun _ => nofun)⟩
    have e : m_longest_with ([.val (dl S), .val (.int n)] ++ List.replicate 5 .un) = .ok (.ret (.val (.int (longT S n)))) [.val (dl S), .val (.int n), .val (.int (longT S n)), a, b, c, d] := by
      unfold m_longest_with
      refine sq (Γ1 := [.val (dl S), .val (.int n), .un, .un, .un, .un, .un]) (by simp [retV_of (F_check_set S hS)]) (sq (Γ1 := [.val (dl S), .val (.int n), .un, .un, .un, .un, .un]) (by simp [retV_of (int_ten hn)]) (sq (Γ1 := [.val (dl S), .val (.int n), .un, .un, .un, .un, .un]) (by simp [in_dl, hm]) (sq (Γ1 := [.val (dl S), .val (.int n), .val (.int 1), .un, .un, .un, .un]) (by simp) (sq (Γ1 := [.val (dl S), .val (.int n), .val (.int (longT S n)), a, b, c, d]) ?_ (by simp)))))
      rw [ap_sFor]
      have : iSq (eVar 0) [.val (dl S), .val (.int n), .val (.int 1), .un, .un, .un, .un] = .ok (S.map PyData.int) [.val (dl S), .val (.int n), .val (.int 1), .un, .un, .un, .un] := by simp
      rw [this, and_ok]
      exact q
    unfold g_longest_with
    rw [ap_fnX, e, finX_ret]
  · refine .inr ⟨hm, eOf_ok (Γ := [.val (dl S), .val (.int n), .un, .un, .un, .un, .un]) ?_⟩
    unfold g_longest_with m_longest_with
    simp [ap_fnX, retV_of (F_check_set S hS), retV_of (int_ten hn), in_dl, hm]
def longL (S : List Int) (n : Int) : List Int := ((withinT S).filter fun i => decide (n ∈ nums i)).map fun i => ((nums i).length : Int)
end Rt
namespace Rt
open PySem PySem.Spec PyProof.Rows L2
theorem mem_nums {n f l st : Int} : n ∈ nums (f, l, st) ↔ n ∈ ten ∧ f ≤ n ∧ n ≤ l ∧ (n - f) % st = 0 := by
  unfold nums
  simp only [List.mem_filter, Bool.and_eq_true, decide_eq_true_eq, and_assoc]
theorem step_eq {d st : Int} (h1 : 0 < d) (h2 : d ≤ st) (h3 : d % st = 0) : d = st := by
  by_cases h : d < st
  · rw [Int.emod_eq_of_lt (by omega) h] at h3
    omega
  · omega
theorem mod_diff {m l f st : Int} (h1 : (m - f) % st = 0) (h2 : (l - f) % st = 0) : (m - l) % st = 0 := by
  have : m - l = (m - f) - (l - f) := by omega
  rw [this, Int.sub_emod, h1, h2]
  simp
/-- the chain up to the end lies in the set -/
theorem end_in {S : List Int} {st : Int} (hst : 1 ≤ st) (f : Int) : ∀ (n : Nat) (l : Int), f ≤ l → (l - f) % st = 0 → (∀ m, f ≤ m → m ≤ l → (m - f) % st = 0 → m ∈ S) → ∀ m, f ≤ m → m ≤ endT S st n l → (m - f) % st = 0 → m ∈ S
  | 0, l, _, _, h => h
  | n + 1, l, hl, hm, h => by
    unfold endT
    split
    · rename_i hs
      have hs := of_decide_eq_true hs
      refine end_in hst f n (l + st) (by omega) ?_ fun m h1 h2 h3 => ?_
      · have : l + st - f = (l - f) + st := by omega
        rw [this, Int.add_emod_right]; exact hm
      · by_cases hml : m ≤ l
        · exact h m h1 hml h3
        · have := step_eq (d := m - l) (by omega) (by omega) (mod_diff h3 hm)
          have : m = l + st := by omega
          rw [this]; exact hs
    · exact h
/-- the end is no nearer than any chain in the set -/
theorem end_far {S : List Int} {st : Int} (hst : 1 ≤ st) : ∀ (n : Nat) (l l' : Int), l ≤ l' → (l' - l) % st = 0 → l' - l ≤ n → (∀ m, l < m → m ≤ l' → (m - l) % st = 0 → m ∈ S) → l' ≤ endT S st n l
  | 0, l, l', h1, _, h2, _ => by unfold endT; omega
  | n + 1, l, l', h1, hm, h2, h => by
    by_cases he : l = l'
    · subst he
      exact (end_prop hst (S := S) (n + 1) l l (Int.le_refl _) (by simp) (.inl rfl)).1
    · have hge : l + st ≤ l' := by
        by_cases hlt : l' - l < st
        · rw [Int.emod_eq_of_lt (by omega) hlt] at hm
          omega
        · omega
      have hs : l + st ∈ S := h (l + st) (by omega) hge (by
        have : l + st - l = st := by omega
        rw [this, Int.emod_self])
      rw [endT, if_pos (decide_eq_true hs)]
      refine end_far hst n (l + st) l' hge ?_ (by omega) fun m h3 h4 h5 => h m (by omega) h4 ?_
      · have : l' - (l + st) = (l' - l) - st := by omega
        rw [this, Int.sub_emod, hm]
        simp
      · have : m - l = (m - (l + st)) + st := by omega
        rw [this, Int.add_emod_right]; exact h5
theorem F_step : (items110.all fun i => ten.contains i.1 && (ten.contains i.2.1 && (nine.contains i.2.2 && (decide (i.1 ≤ i.2.1) && (decide ((i.2.1 - i.1) % i.2.2 = 0) && (decide (i.1 < i.2.1) || decide (nums i = [i.1]))))))) = true := by decide +kernel
theorem itm_prop {f l st : Int} (h : (f, l, st) ∈ items110) : f ∈ ten ∧ l ∈ ten ∧ st ∈ nine ∧ f ≤ l ∧ (l - f) % st = 0 ∧ (f < l ∨ nums (f, l, st) = [f]) := by
  have := List.all_eq_true.mp F_step _ h
  simp only [Bool.and_eq_true, Bool.or_eq_true, List.contains_iff_mem, decide_eq_true_eq] at this
  exact this
theorem lw_ge (S : List Int) (n f : Int) : ∀ (T : List Int) (b : Int), b ≤ T.foldl (lwS S n f) b
  | [], b => Int.le_refl _
  | st :: T, b => by
    rw [List.foldl_cons]
    refine Int.le_trans ?_ (lw_ge S n f T _)
    unfold lwS
    split
    · split <;> omega
    · exact Int.le_refl _
theorem lw_at (S : List Int) (n f : Int) : ∀ (T : List Int) (b st : Int), st ∈ T → n ∈ ownT f (endT S st 40 f) st → ((ownT f (endT S st 40 f) st).length : Int) ≤ T.foldl (lwS S n f) b
  | s :: T, b, st, h, hn => by
    rw [List.foldl_cons]
    rcases List.mem_cons.mp h with rfl | h
    · refine Int.le_trans ?_ (lw_ge S n f T _)
      unfold lwS
      rw [if_pos (decide_eq_true hn)]
      split <;> omega
    · exact lw_at S n f T _ st h hn
theorem lw_le (S : List Int) (n f B : Int) : ∀ (T : List Int) (b : Int), b ≤ B → (∀ st ∈ T, n ∈ ownT f (endT S st 40 f) st → ((ownT f (endT S st 40 f) st).length : Int) ≤ B) → T.foldl (lwS S n f) b ≤ B
  | [], b, h, _ => h
  | st :: T, b, h, hB => by
    rw [List.foldl_cons]
    refine lw_le S n f B T _ ?_ fun s hs => hB s (by simp [hs])
    unfold lwS
    split
    · rename_i hn
      have := hB st (by simp) (of_decide_eq_true hn)
      split <;> omega
    · exact h
theorem long_ge (S : List Int) (n : Int) : ∀ (T : List Int) (b : Int), b ≤ T.foldl (fun b f => nine.foldl (lwS S n f) b) b
  | [], b => Int.le_refl _
  | f :: T, b => by
    rw [List.foldl_cons]
    exact Int.le_trans (lw_ge S n f nine b) (long_ge S n T _)
theorem long_at (S : List Int) (n : Int) : ∀ (T : List Int) (b f st : Int), f ∈ T → st ∈ nine → n ∈ ownT f (endT S st 40 f) st → ((ownT f (endT S st 40 f) st).length : Int) ≤ T.foldl (fun b f => nine.foldl (lwS S n f) b) b
  | g :: T, b, f, st, hf, hs, hn => by
    rw [List.foldl_cons]
    rcases List.mem_cons.mp hf with rfl | hf
    · exact Int.le_trans (lw_at S n f nine b st hs hn) (long_ge S n T _)
    · exact long_at S n T _ f st hf hs hn
theorem long_le (S : List Int) (n B : Int) : ∀ (T : List Int) (b : Int), b ≤ B → (∀ f ∈ T, ∀ st ∈ nine, n ∈ ownT f (endT S st 40 f) st → ((ownT f (endT S st 40 f) st).length : Int) ≤ B) → T.foldl (fun b f => nine.foldl (lwS S n f) b) b ≤ B
  | [], b, h, _ => h
  | f :: T, b, h, hB => by
    rw [List.foldl_cons]
    exact long_le S n B T _ (lw_le S n f B nine b h (hB f (by simp))) fun g hg => hB g (by simp [hg])
theorem nums_mono {f l l' st : Int} (h : l ≤ l') : (nums (f, l, st)).length ≤ (nums (f, l', st)).length := by
  unfold nums
  have e : ∀ L : List Int, (L.filter fun n => decide (f ≤ n) && decide (n ≤ l) && decide ((n - f) % st = 0)).length ≤ (L.filter fun n => decide (f ≤ n) && decide (n ≤ l') && decide ((n - f) % st = 0)).length := by
    intro L
    induction L with
    | nil => simp
    | cons a r ih =>
      rw [List.filter_cons, List.filter_cons]
      by_cases h1 : (decide (f ≤ a) && decide (a ≤ l) && decide ((a - f) % st = 0)) = true
      · have h2 : (decide (f ≤ a) && decide (a ≤ l') && decide ((a - f) % st = 0)) = true := by
          simp only [Bool.and_eq_true, decide_eq_true_eq] at h1 ⊢
          exact ⟨⟨h1.1.1, by omega⟩, h1.2⟩
        rw [if_pos h1, if_pos h2]
        simp; exact ih
      · rw [if_neg h1]
        split
        · simp; omega
        · exact ih
  exact e ten
theorem maxL_mem : ∀ {l : List Int}, l ≠ [] → maxL l ∈ l ∧ ∀ y ∈ l, y ≤ maxL l
  | [], h => absurd rfl h
  | [a], _ => by simp [maxL]
  | a :: b :: r, _ => by
    obtain ⟨h1, h2⟩ := maxL_mem (l := b :: r) (by simp)
    have e : maxL (a :: b :: r) = if maxL (b :: r) ≤ a then a else maxL (b :: r) := rfl
    rw [e]
    split
    · rename_i h
      refine ⟨by simp, fun y hy => ?_⟩
      rcases List.mem_cons.mp hy with rfl | hy
      · exact Int.le_refl _
      · exact Int.le_trans (h2 y hy) h
    · rename_i h
      refine ⟨List.mem_cons_of_mem _ h1, fun y hy => ?_⟩
      rcases List.mem_cons.mp hy with rfl | hy
      · omega
      · exact h2 y hy
theorem own_in {S : List Int} (hS : ∀ n ∈ S, n ∈ ten) {n f st : Int} (hf : f ∈ S) (hs : st ∈ nine) (hn : n ∈ ownT f (endT S st 40 f) st) : ∃ i ∈ withinT S, n ∈ nums i ∧ (nums i).length = (ownT f (endT S st 40 f) st).length := by
  have st1 := (nine_le hs).1
  have hp := end_prop st1 (S := S) 40 f f (Int.le_refl _) (by simp) (.inl rfl)
  have hi := end_in st1 (S := S) f 40 f (Int.le_refl _) (by simp) fun m h1 h2 _ => by
    have : m = f := by omega
    rw [this]; exact hf
  generalize endT S st 40 f = l at hn hp hi ⊢
  unfold ownT at hn ⊢
  by_cases h : f < l
  · rw [if_pos h] at hn ⊢
    have hl : l ∈ S := by
      rcases hp.2.2 with h' | h'
      · omega
      · exact h'
    refine ⟨(f, l, st), mem_within.mpr ⟨chain110 (hS f hf) (hS l hl) hs h hp.2.1, fun m hm => ?_⟩, hn, rfl⟩
    obtain ⟨_, h1, h2, h3⟩ := mem_nums.mp hm
    exact hi m h1 h2 h3
  · rw [if_neg h] at hn ⊢
    have : n = f := by simpa using hn
    subst this
    have hone := F_one n (hS n hf)
    refine ⟨one1 n, mem_within.mpr ⟨hone.1, fun m hm => ?_⟩, by rw [hone.2.2]; simp, by rw [hone.2.2]⟩
    rw [hone.2.2] at hm
    rw [List.mem_singleton.mp hm]; exact hf
theorem long_eq {S : List Int} (h : S ∈ subsL ten) {n : Int} (hn : n ∈ S) : longL S n ≠ [] ∧ longT S n = maxL (longL S n) := by
  have hS := subs_ten h
  have hone := F_one n (hS n hn)
  have h1 : (1 : Int) ∈ longL S n := List.mem_map.mpr ⟨one1 n, List.mem_filter.mpr ⟨one_within h hn, by rw [hone.2.2]; simp⟩, by rw [hone.2.2]; rfl⟩
  have hne : longL S n ≠ [] := fun z => by rw [z] at h1; cases h1
  obtain ⟨m1, m2⟩ := maxL_mem hne
  refine ⟨hne, Int.le_antisymm ?_ ?_⟩
  · refine long_le S n _ S 1 (m2 1 h1) fun f hf st hs ho => ?_
    obtain ⟨i, hi, hni, e⟩ := own_in hS hf hs ho
    rw [← e]
    exact m2 _ (List.mem_map.mpr ⟨i, List.mem_filter.mpr ⟨hi, decide_eq_true hni⟩, rfl⟩)
  · obtain ⟨i, hi, e⟩ := List.mem_map.mp m1
    obtain ⟨hi1, hi2⟩ := List.mem_filter.mp hi
    have hni := of_decide_eq_true hi2
    obtain ⟨f, l, st⟩ := i
    obtain ⟨g1, g2⟩ := mem_within.mp hi1
    obtain ⟨p1, p2, p3, p4, p5, p6⟩ := itm_prop g1
    have st1 := (nine_le p3).1
    have hf : f ∈ S := g2 f (mem_nums.mpr ⟨p1, Int.le_refl _, p4, by simp⟩)
    rw [← e]
    rcases p6 with p6 | p6
    · have far := end_far st1 (S := S) 40 f l p4 p5 (by have := ten_le p1; have := ten_le p2; omega) fun m h1 h2 h3 => g2 m (mem_nums.mpr ⟨by
        have a := ten_le p1; have b := ten_le p2
        simp [ten]; omega, by omega, h2, h3⟩)
      have ho : ownT f (endT S st 40 f) st = nums (f, endT S st 40 f, st) := by unfold ownT; rw [if_pos (by omega)]
      have hno : n ∈ ownT f (endT S st 40 f) st := by
        rw [ho]
        obtain ⟨q1, q2, q3, q4⟩ := mem_nums.mp hni
        exact mem_nums.mpr ⟨q1, q2, by omega, q4⟩
      refine Int.le_trans ?_ (long_at S n S 1 f st hf p3 hno)
      rw [ho]
      have := nums_mono (f := f) (st := st) far
      omega
    · rw [p6]
      exact long_ge S n S 1
theorem long_mono {S T : List Int} (hS : S ∈ subsL ten) (hT : T ∈ subsL ten) (h : ∀ n ∈ S, n ∈ T) {n : Int} (hn : n ∈ S) : longT S n ≤ longT T n := by
  obtain ⟨a1, a2⟩ := long_eq hS hn
  obtain ⟨b1, b2⟩ := long_eq hT (h n hn)
  rw [a2, b2]
  have m := (maxL_mem a1).1
  refine (maxL_mem b1).2 _ ?_
  obtain ⟨i, hi, e⟩ := List.mem_map.mp m
  obtain ⟨h1, h2⟩ := List.mem_filter.mp hi
  exact List.mem_map.mpr ⟨i, List.mem_filter.mpr ⟨within_mono h i h1, h2⟩, e⟩
theorem long_bnd {S : List Int} (hS : S ∈ subsL ten) {n : Int} (hn : n ∈ S) : 1 ≤ longT S n ∧ longT S n ≤ S.length := by
  refine ⟨long_ge S n S 1, ?_⟩
  obtain ⟨a1, a2⟩ := long_eq hS hn
  rw [a2]
  obtain ⟨i, hi, e⟩ := List.mem_map.mp (maxL_mem a1).1
  obtain ⟨h1, _⟩ := List.mem_filter.mp hi
  rw [← e]
  have nd : (nums i).Nodup := ten_nodup.filter _
  have := nodup_len nd (mem_within.mp h1).2
  omega
end Rt
namespace Rt
open PySem PySem.Spec PyProof.Rows L2
/-! ### the fewest items -/
def fD (i : Itm) : D := dl (nums i)
def pcF (i : Itm) : Pc := (nums i, 1)
theorem fewest_ok {S : List Int} (hS : S.length ≤ 10) {L : List Itm} (hL : L.length ≤ 1000) (hc : Covers (L.map pcF) S) : ∀ (n : Nat) (left : List Int) (kvs : List (List Int × Int)), left ∈ subsL S → left.length < n → Kn (lenOf (L.map pcF)) S kvs →
    ∃ kvs' Γ', g_fewest_from n [.val (tpl left), .val (.list (L.map fD)), .own (some 2) (.dT kvs)] = .ok (.val (.int (lenOf (L.map pcF) left))) Γ' ∧ Γ'[2]? = some (.own (some 2) (.dT kvs')) ∧ Kn (lenOf (L.map pcF)) S kvs' ∧ ∀ kv ∈ kvs', kv ∈ kvs ∨ kv.1.length ≤ left.length
  | 0, left, kvs, _, h, _ => absurd h (Nat.not_lt_zero _)
  | n + 1, [], kvs, hs, hn, kn => by
    refine ⟨kvs, [.val (tpl []), .val (.list (L.map fD)), .own (some 2) (.dT kvs), .un, .un, .un, .un], ?_, rfl, kn, fun kv h => .inl h⟩
    have q : dEq (tpl []) (.tuple []) = some (.val (.bool true)) := eq_tpl [] []
    unfold g_fewest_from m_fewest_from
    simp [ap_fnP, q, lenOf_nil]
  | n + 1, x :: xs, kvs, hs, hn, kn => by
    have hn : xs.length + 1 < n + 1 := by simpa using hn
    have lS : (x :: xs).length ≤ 10 := by
      have := nodup_sub_len hs
      omega
    have st0 : (sIf (tst (bin dEq (eVar 0) (mkTup (aNil)))) (sRet (eC (.int 0))) (sNx)) [.val (tpl (x :: xs)), .val (.list (L.map fD)), .own (some 2) (.dT kvs), .un, .un, .un, .un] = .ok .nx [.val (tpl (x :: xs)), .val (.list (L.map fD)), .own (some 2) (.dT kvs), .un, .un, .un, .un] := by
      have q := in_nil_eq (x :: xs)
      rw [decide_eq_false (by simp)] at q
      simp [q]
    cases hk : lookT kvs (x :: xs) with
    | some v =>
      have hv := kn.val _ (look_some hk)
      refine ⟨kvs, [.val (tpl (x :: xs)), .val (.list (L.map fD)), .own (some 2) (.dT kvs), .un, .un, .un, .un], ?_, rfl, kn, fun kv h => .inl h⟩
      have st1 : (sIf (tst (ninM (eVar 0) 2)) (sSeq (sAsg 3 (eC .none)) (sSeq (sFor (iSq (eVar 1)) (tgN 4) (sIf (tst (bin dIn (bin dIx (eVar 0) (eC (.int 0))) (eVar 4))) (sSeq (sAsg 5 (sto (bin dAdd (eC (.int 1)) (callIO 3 (g_fewest_from n) (aCons (sto (callD dTuple (aLast (lcM (iSq (eVar 0)) (tgN 6) (tst (bin dNotIn (eVar 6) (eVar 4))) (eVar 6) [6])))) (aCons (sto (eVar 1)) (aLast (eVar 2)))))))) (sAsg 3 (sto (vIf (mOr (tst (bin dIs (eVar 3) (eC .none))) (tst (bin dLt (eVar 5) (eVar 3)))) (eVar 5) (eVar 3))))) (sNx))) (dputM 2 (eVar 0) (eVar 3)))) (sNx)) [.val (tpl (x :: xs)), .val (.list (L.map fD)), .own (some 2) (.dT kvs), .un, .un, .un, .un] = .ok .nx [.val (tpl (x :: xs)), .val (.list (L.map fD)), .own (some 2) (.dT kvs), .un, .un, .un, .un] := by
        rw [ap_sIf, nin_ok' (ks := x :: xs) (kvs := kvs) (kk := some 2) rfl rfl, hk]
        rfl
      have st2 : (sRet (dgetM 2 (eVar 0))) [.val (tpl (x :: xs)), .val (.list (L.map fD)), .own (some 2) (.dT kvs), .un, .un, .un, .un] = .ok (.ret (.val (.int v))) [.val (tpl (x :: xs)), .val (.list (L.map fD)), .own (some 2) (.dT kvs), .un, .un, .un, .un] := by
        rw [ap_sRet, dget_ok' (ks := x :: xs) (kvs := kvs) (kk := some 2) rfl rfl hk]
        rfl
      have hv : v = lenOf (L.map pcF) (x :: xs) := hv
      subst hv
      have e : m_fewest_from (g_fewest_from n) [.val (tpl (x :: xs)), .val (.list (L.map fD)), .own (some 2) (.dT kvs), .un, .un, .un, .un] = .ok (.ret (.val (.int (lenOf (L.map pcF) (x :: xs))))) [.val (tpl (x :: xs)), .val (.list (L.map fD)), .own (some 2) (.dT kvs), .un, .un, .un, .un] := by
        unfold m_fewest_from
        exact sq st0 (sq st1 st2)
      have ge : g_fewest_from (n + 1) = fnP (m_fewest_from (g_fewest_from n)) 4 := rfl
      rw [ge, ap_fnP]
      show finF (m_fewest_from (g_fewest_from n) [.val (tpl (x :: xs)), .val (.list (L.map fD)), .own (some 2) (.dT kvs), .un, .un, .un, .un]) = _
      rw [e, finF_ret]
    | none =>
      obtain ⟨Γ', eF, kvs3, z4, z5, rfl, kn3, old3⟩ := for_rel (tg := tgN 4) (b := (sIf (tst (bin dIn (bin dIx (eVar 0) (eC (.int 0))) (eVar 4))) (sSeq (sAsg 5 (sto (bin dAdd (eC (.int 1)) (callIO 3 (g_fewest_from n) (aCons (sto (callD dTuple (aLast (lcM (iSq (eVar 0)) (tgN 6) (tst (bin dNotIn (eVar 6) (eVar 4))) (eVar 6) [6])))) (aCons (sto (eVar 1)) (aLast (eVar 2)))))))) (sAsg 3 (sto (vIf (mOr (tst (bin dIs (eVar 3) (eC .none))) (tst (bin dLt (eVar 5) (eVar 3)))) (eVar 5) (eVar 3))))) (sNx))) fD (fun b i => if decide (x ∈ nums i) = true then better b (1 + lenOf (L.map pcF) (rest (x :: xs) (nums i))) else b)
        (fun b Γ => ∃ kvs1 z4 z5, Γ = [.val (tpl (x :: xs)), .val (.list (L.map fD)), .own (some 2) (.dT kvs1), .val (oI b), z4, z5, .un] ∧ Kn (lenOf (L.map pcF)) S kvs1 ∧ ∀ kv ∈ kvs1, kv ∈ kvs ∨ kv.1.length < (x :: xs).length) L none [.val (tpl (x :: xs)), .val (.list (L.map fD)), .own (some 2) (.dT kvs), .val (.none), .un, .un, .un]
        (by
          rintro i hi b Γ ⟨kvs1, z4, z5, rfl, kn1, old1⟩
          refine ⟨[.val (tpl (x :: xs)), .val (.list (L.map fD)), .own (some 2) (.dT kvs1), .val (oI b), .val (fD i), z5, .un], ?_⟩
          by_cases hx : x ∈ nums i
          · have t : tst (bin dIn (bin dIx (eVar 0) (eC (.int 0))) (eVar 4)) [.val (tpl (x :: xs)), .val (.list (L.map fD)), .own (some 2) (.dT kvs1), .val (oI b), .val (fD i), z5, .un] = .ok true [.val (tpl (x :: xs)), .val (.list (L.map fD)), .own (some 2) (.dT kvs1), .val (oI b), .val (fD i), z5, .un] := by
              simp [at0, fD, in_dl, hx]
            have c : lcM (iSq (eVar 0)) (tgN 6) (tst (bin dNotIn (eVar 6) (eVar 4))) (eVar 6) [6] [.val (tpl (x :: xs)), .val (.list (L.map fD)), .own (some 2) (.dT kvs1), .val (oI b), .val (fD i), z5, .un] = .ok (.own (.lst ((rest (x :: xs) (nums i)).map PyData.int))) [.val (tpl (x :: xs)), .val (.list (L.map fD)), .own (some 2) (.dT kvs1), .val (oI b), .val (fD i), z5, .un] :=
              lc1 PyData.int (fun n => !decide (n ∈ nums i)) PyData.int (x :: xs) (by simp) (by omega) (by simp) rfl fun y hy => ⟨by simp [fD, in_dl], fun _ => ⟨.bor 6, by simp, by simp⟩⟩
            have ca : callD dTuple (aLast (lcM (iSq (eVar 0)) (tgN 6) (tst (bin dNotIn (eVar 6) (eVar 4))) (eVar 6) [6])) [.val (tpl (x :: xs)), .val (.list (L.map fD)), .own (some 2) (.dT kvs1), .val (oI b), .val (fD i), z5, .un] = .ok (.val (tpl (rest (x :: xs) (nums i)))) [.val (tpl (x :: xs)), .val (.list (L.map fD)), .own (some 2) (.dT kvs1), .val (oI b), .val (fD i), z5, .un] := by
              rw [ap_callD, ap_aLast, c]
              rfl
            have hr := rest_lt (xs := xs) hx
            simp only [List.length_cons] at hr
            obtain ⟨kvs2, Γ2, e2, f2, kn2, old2⟩ := fewest_ok hS hL hc n (rest (x :: xs) (nums i)) kvs1 (subs_trans _ hs) (by omega) kn1
            have io := io3 (g := g_fewest_from n) (f1 := callD dTuple (aLast (lcM (iSq (eVar 0)) (tgN 6) (tst (bin dNotIn (eVar 6) (eVar 4))) (eVar 6) [6]))) (f2 := eVar 1) (Γ := [.val (tpl (x :: xs)), .val (.list (L.map fD)), .own (some 2) (.dT kvs1), .val (oI b), .val (fD i), z5, .un]) (i := 2) (kk := some 2) (q1 := .val (tpl (rest (x :: xs) (nums i)))) (q2 := .bor 1) ca rfl rfl rfl rfl e2 f2 (fun _ => nofun)
            have a2 : (sAsg 5 (sto (bin dAdd (eC (.int 1)) (callIO 3 (g_fewest_from n) (aCons (sto (callD dTuple (aLast (lcM (iSq (eVar 0)) (tgN 6) (tst (bin dNotIn (eVar 6) (eVar 4))) (eVar 6) [6])))) (aCons (sto (eVar 1)) (aLast (eVar 2)))))))) [.val (tpl (x :: xs)), .val (.list (L.map fD)), .own (some 2) (.dT kvs1), .val (oI b), .val (fD i), z5, .un] = .ok .nx [.val (tpl (x :: xs)), .val (.list (L.map fD)), .own (some 2) (.dT kvs2), .val (oI b), .val (fD i), .val (.int (1 + lenOf (L.map pcF) (rest (x :: xs) (nums i)))), .un] := by simp [io]
            have a3 : (sAsg 3 (sto (vIf (mOr (tst (bin dIs (eVar 3) (eC .none))) (tst (bin dLt (eVar 5) (eVar 3)))) (eVar 5) (eVar 3)))) [.val (tpl (x :: xs)), .val (.list (L.map fD)), .own (some 2) (.dT kvs2), .val (oI b), .val (fD i), .val (.int (1 + lenOf (L.map pcF) (rest (x :: xs) (nums i)))), .un] = .ok .nx [.val (tpl (x :: xs)), .val (.list (L.map fD)), .own (some 2) (.dT kvs2), .val (oI (better b (1 + lenOf (L.map pcF) (rest (x :: xs) (nums i))))), .val (fD i), .val (.int (1 + lenOf (L.map pcF) (rest (x :: xs) (nums i)))), .un] := by
              cases b with
              | none => simp [oI, better, is_none_none]
              | some v =>
                by_cases hw : 1 + lenOf (L.map pcF) (rest (x :: xs) (nums i)) < v
                · simp [oI, better, is_none_int, hw]
                · simp [oI, better, is_none_int, hw]
            refine ⟨[.val (tpl (x :: xs)), .val (.list (L.map fD)), .own (some 2) (.dT kvs2), .val (oI (better b (1 + lenOf (L.map pcF) (rest (x :: xs) (nums i))))), .val (fD i), .val (.int (1 + lenOf (L.map pcF) (rest (x :: xs) (nums i)))), .un], rfl, ?_, kvs2, .val (fD i), .val (.int (1 + lenOf (L.map pcF) (rest (x :: xs) (nums i)))), ?_, kn2, fun kv h => ?_⟩
            · rw [ap_sIf, t, and_ok, if_pos rfl]
              exact sq a2 a3
            · rw [if_pos (decide_eq_true hx)]
            · rcases old2 kv h with h | h
              · exact old1 kv h
              · exact .inr (by simp only [List.length_cons]; omega)
          · have t : tst (bin dIn (bin dIx (eVar 0) (eC (.int 0))) (eVar 4)) [.val (tpl (x :: xs)), .val (.list (L.map fD)), .own (some 2) (.dT kvs1), .val (oI b), .val (fD i), z5, .un] = .ok false [.val (tpl (x :: xs)), .val (.list (L.map fD)), .own (some 2) (.dT kvs1), .val (oI b), .val (fD i), z5, .un] := by
              simp [at0, fD, in_dl, hx]
            refine ⟨[.val (tpl (x :: xs)), .val (.list (L.map fD)), .own (some 2) (.dT kvs1), .val (oI b), .val (fD i), z5, .un], rfl, ?_, kvs1, .val (fD i), z5, ?_, kn1, old1⟩
            · rw [ap_sIf, t, and_ok, if_neg Bool.false_ne_true]
              rfl
            · rw [if_neg (by simpa using hx)])
        ⟨kvs, .un, .un, rfl, kn, fun kv h => .inl h⟩
      have hfold : L.foldl (fun b i => if decide (x ∈ nums i) = true then better b (1 + lenOf (L.map pcF) (rest (x :: xs) (nums i))) else b) none = some (lenOf (L.map pcF) (x :: xs)) := by
        rw [step_fold L (fun i => decide (x ∈ nums i)) fun i => 1 + lenOf (L.map pcF) (rest (x :: xs) (nums i))]
        have e : ((L.map pcF).filter fun p => decide (x ∈ p.1)).map (fun p => p.2 + lenOf (L.map pcF) (rest (x :: xs) p.1)) = (L.filter fun i => decide (x ∈ nums i)).map fun i => 1 + lenOf (L.map pcF) (rest (x :: xs) (nums i)) := by
          rw [List.filter_map, List.map_map]
          rfl
        rw [lenOf_cons, e]
        obtain ⟨p, hp, hxp⟩ := hc x (subs_ten' hs x (by simp))
        obtain ⟨i, hi, rfl⟩ := List.mem_map.mp hp
        have hm : i ∈ L.filter fun i => decide (x ∈ nums i) := List.mem_filter.mpr ⟨hi, decide_eq_true hxp⟩
        cases hq : (L.filter fun i => decide (x ∈ nums i)).map fun i => 1 + lenOf (L.map pcF) (rest (x :: xs) (nums i)) with
        | nil =>
          have := List.map_eq_nil_iff.mp hq
          rw [this] at hm
          cases hm
        | cons w r => exact better_none w r
      rw [hfold] at eF
      have l3 := kn3.len hS
      have hk3 : lookT kvs3 (x :: xs) = none := look_not fun z => by
        obtain ⟨kv, h1, h2⟩ := List.mem_map.mp z
        rcases old3 kv h1 with h | h
        · exact look_none hk (List.mem_map.mpr ⟨kv, h, h2⟩)
        · rw [h2] at h
          exact absurd h (Nat.lt_irrefl _)
      have st1 : (sIf (tst (ninM (eVar 0) 2)) (sSeq (sAsg 3 (eC .none)) (sSeq (sFor (iSq (eVar 1)) (tgN 4) (sIf (tst (bin dIn (bin dIx (eVar 0) (eC (.int 0))) (eVar 4))) (sSeq (sAsg 5 (sto (bin dAdd (eC (.int 1)) (callIO 3 (g_fewest_from n) (aCons (sto (callD dTuple (aLast (lcM (iSq (eVar 0)) (tgN 6) (tst (bin dNotIn (eVar 6) (eVar 4))) (eVar 6) [6])))) (aCons (sto (eVar 1)) (aLast (eVar 2)))))))) (sAsg 3 (sto (vIf (mOr (tst (bin dIs (eVar 3) (eC .none))) (tst (bin dLt (eVar 5) (eVar 3)))) (eVar 5) (eVar 3))))) (sNx))) (dputM 2 (eVar 0) (eVar 3)))) (sNx)) [.val (tpl (x :: xs)), .val (.list (L.map fD)), .own (some 2) (.dT kvs), .un, .un, .un, .un] = .ok .nx [.val (tpl (x :: xs)), .val (.list (L.map fD)), .own (some 2) (.dT (kvs3 ++ [(x :: xs, lenOf (L.map pcF) (x :: xs))])), .val (.int (lenOf (L.map pcF) (x :: xs))), z4, z5, .un] := by
        rw [ap_sIf, nin_ok' (ks := x :: xs) (kvs := kvs) (kk := some 2) rfl rfl, hk, and_ok, show (none : Option Int).isNone = true from rfl, if_pos rfl]
        refine sq (Γ1 := [.val (tpl (x :: xs)), .val (.list (L.map fD)), .own (some 2) (.dT kvs), .val (.none), .un, .un, .un]) (by simp) (sq (Γ1 := [.val (tpl (x :: xs)), .val (.list (L.map fD)), .own (some 2) (.dT kvs3), .val (.int (lenOf (L.map pcF) (x :: xs))), z4, z5, .un]) ?_ ?_)
        · rw [ap_sFor]
          have : iSq (eVar 1) [.val (tpl (x :: xs)), .val (.list (L.map fD)), .own (some 2) (.dT kvs), .val (.none), .un, .un, .un] = .ok (L.map fD) [.val (tpl (x :: xs)), .val (.list (L.map fD)), .own (some 2) (.dT kvs), .val (.none), .un, .un, .un] := by simp
          rw [this, and_ok]
          exact eF
        · exact dput_ok' (a := 0) (b := 3) (i := 2) (ks := x :: xs) rfl rfl rfl hk3 (by omega)
      have st2 : (sRet (dgetM 2 (eVar 0))) [.val (tpl (x :: xs)), .val (.list (L.map fD)), .own (some 2) (.dT (kvs3 ++ [(x :: xs, lenOf (L.map pcF) (x :: xs))])), .val (.int (lenOf (L.map pcF) (x :: xs))), z4, z5, .un] = .ok (.ret (.val (.int (lenOf (L.map pcF) (x :: xs))))) [.val (tpl (x :: xs)), .val (.list (L.map fD)), .own (some 2) (.dT (kvs3 ++ [(x :: xs, lenOf (L.map pcF) (x :: xs))])), .val (.int (lenOf (L.map pcF) (x :: xs))), z4, z5, .un] := by
        rw [ap_sRet, dget_ok' (ks := x :: xs) (kk := some 2) rfl rfl (look_app hk3)]
        rfl
      refine ⟨_, [.val (tpl (x :: xs)), .val (.list (L.map fD)), .own (some 2) (.dT (kvs3 ++ [(x :: xs, lenOf (L.map pcF) (x :: xs))])), .val (.int (lenOf (L.map pcF) (x :: xs))), z4, z5, .un], ?_, rfl, kn3.put hs hk3, fun kv h => ?_⟩
      · have e : m_fewest_from (g_fewest_from n) [.val (tpl (x :: xs)), .val (.list (L.map fD)), .own (some 2) (.dT kvs), .un, .un, .un, .un] = .ok (.ret (.val (.int (lenOf (L.map pcF) (x :: xs))))) [.val (tpl (x :: xs)), .val (.list (L.map fD)), .own (some 2) (.dT (kvs3 ++ [(x :: xs, lenOf (L.map pcF) (x :: xs))])), .val (.int (lenOf (L.map pcF) (x :: xs))), z4, z5, .un] := by
          unfold m_fewest_from
          exact sq st0 (sq st1 st2)
        have ge : g_fewest_from (n + 1) = fnP (m_fewest_from (g_fewest_from n)) 4 := rfl
        rw [ge, ap_fnP]
        show finF (m_fewest_from (g_fewest_from n) [.val (tpl (x :: xs)), .val (.list (L.map fD)), .own (some 2) (.dT kvs), .un, .un, .un, .un]) = _
        rw [e, finF_ret]
      · rcases List.mem_append.mp h with h | h
        · rcases old3 kv h with h | h
          · exact .inl h
          · exact .inr (Nat.le_of_lt h)
        · simp at h
          subst h
          exact .inr (Nat.le_refl _)
end Rt
namespace Rt
open PySem PySem.Spec PyProof.Rows L2
theorem F_nums_inj : (items110.all fun i => items110.all fun j => decide (nums i = nums j → i = j)) = true := by decide +kernel
theorem nums_inj {i j : Itm} (hi : i ∈ items110) (hj : j ∈ items110) (h : nums i = nums j) : i = j := of_decide_eq_true (List.all_eq_true.mp (List.all_eq_true.mp F_nums_inj i hi) j hj) h
theorem nums_nodup (i : Itm) : (nums i).Nodup := ten_nodup.filter _
theorem nums_subs (i : Itm) : nums i ∈ subsL ten := subs_filter _ ten
theorem nums_lt {i j : Itm} (hi : i ∈ items110) (hj : j ∈ items110) (h : ∀ n ∈ nums i, n ∈ nums j) (hne : j ≠ i) : (nums i).length < (nums j).length := by
  have h1 := nodup_len (nums_nodup i) h
  by_cases he : (nums i).length = (nums j).length
  · exfalso
    apply hne
    refine nums_inj hj hi (set_ext (nums_subs j) (nums_subs i) fun n hn => ⟨fun hnj => ?_, h n⟩)
    by_cases hni : n ∈ nums i
    · exact hni
    · have := nodup_len (l := n :: nums i) (m := nums j) (List.nodup_cons.mpr ⟨hni, nums_nodup i⟩) fun m hm => by
        rcases List.mem_cons.mp hm with rfl | hm
        · exact hnj
        · exact h m hm
      simp at this
      omega
  · omega
/-- each item within a set lies in a greatest one -/
theorem dom {S : List Int} : ∀ (k : Nat) (i : Itm), 10 ≤ (nums i).length + k → i ∈ withinT S → ∃ j ∈ greatT S, ∀ n ∈ nums i, n ∈ nums j
  | k, i, hk, hi => by
    by_cases hw : widerT (withinT S) i = []
    · exact ⟨i, List.mem_filter.mpr ⟨hi, decide_eq_true hw⟩, fun n h => h⟩
    · obtain ⟨j, r, e⟩ := List.exists_cons_of_ne_nil hw
      have hj : j ∈ widerT (withinT S) i := by rw [e]; simp
      obtain ⟨h1, h2⟩ := List.mem_filter.mp hj
      simp only [Bool.and_eq_true, Bool.not_eq_true', decide_eq_false_iff_not, List.all_eq_true, decide_eq_true_eq] at h2
      have lt := nums_lt (within110 S i hi) (within110 S j h1) h2.2 h2.1
      have lj := nums_len j
      cases k with
      | zero => omega
      | succ k =>
        obtain ⟨m, hm, hmj⟩ := dom k j (by omega) h1
        exact ⟨m, hm, fun n hn => hmj n (h2.2 n hn)⟩
theorem great_within {S : List Int} {i : Itm} (h : i ∈ greatT S) : i ∈ withinT S := (List.mem_filter.mp h).1
abbrev evF (S : List Int) : List Pc := (greatT S).map pcF
def fewT (S : List Int) : Int := lenOf (evF S) S
theorem evF_covers {S : List Int} (h : S ∈ subsL ten) : Covers (evF S) S := fun x hx => by
  obtain ⟨j, hj, hs⟩ := dom 10 (one1 x) (by omega) (one_within h hx)
  exact ⟨pcF j, List.mem_map.mpr ⟨j, hj, rfl⟩, hs x (by rw [(F_one x (subs_ten h x hx)).2.2]; simp)⟩
theorem fewest_items_ok {S : List Int} (h : S ∈ sets) : vOf (g_fewest_items [.val (dl S)]) = some (.val (.int (fewT S))) := by
  have hs := sets_subs h
  have ls := subs_len hs
  have gl : (greatT S).length ≤ 110 := Nat.le_trans (List.length_filter_le _ _) (within_len S)
  obtain ⟨kvs', Γ', e, _⟩ := fewest_ok ls (show (greatT S).length ≤ 1000 by omega) (evF_covers hs) 12 S [] (subs_self S) (by omega) Kn.nil
  have dt : dTuple [.list (S.map PyData.int)] = some (.val (tpl S)) := rfl
  have c : lcM (iSq (callV 1 g_greatest_of (aLast (sto (eVar 0))))) (tgN 1) (M.ret true) (callV 1 g_numbers_of (aLast (sto (eVar 1)))) [1] [.val (dl S), .un] = .ok (.own (.lst ((greatT S).map fD))) [.val (dl S), .un] :=
    lc1a iD fD (greatT S) (by simp [retV_of (greatest_of_ok hs)]) (by omega) (by simp) rfl fun i hi => ⟨.own (.lst ((nums i).map PyData.int)), by simp [retV_of (F_numbers_of i (within110 S i (great_within hi)))], rfl⟩
  have io := io3n (g := g_fewest_from 12) (f1 := callD dTuple (aLast (eVar 0))) (f2 := lcM (iSq (callV 1 g_greatest_of (aLast (sto (eVar 0))))) (tgN 1) (M.ret true) (callV 1 g_numbers_of (aLast (sto (eVar 1)))) [1]) (f3 := newT) (Γ := [.val (dl S), .un]) (o := .dT []) (q1 := .val (tpl S)) (q2 := .own (.lst ((greatT S).map fD))) (by simp [dt]) rfl c rfl rfl e (fun _ => nofun)
  refine vOf_ok (Γ := [.val (dl S), .un]) ?_ (fun _ => nofun)
  unfold g_fewest_items m_fewest_items
  simp [ap_fnX, retV_of (F_check_set S h), io]
  rfl
theorem costF (A : List Itm) : costL (A.map pcF) = A.length := by
  unfold costL
  rw [List.map_map]
  induction A with
  | nil => rfl
  | cons i r ih => simp only [List.map_cons, List.sum_cons, ih, Function.comp_apply, pcF, List.length_cons]; omega
theorem coversF {A : List Itm} {S : List Int} (h : ∀ n ∈ S, n ∈ meantT A) : Covers (A.map pcF) S := fun x hx => by
  obtain ⟨i, hi, hn⟩ := mem_flat.mp (mem_meant.mp (h x hx))
  exact ⟨pcF i, List.mem_map.mpr ⟨i, hi, rfl⟩, hn⟩
/-- no items within the set that cover it are fewer -/
theorem few_le {A : List Itm} {S : List Int} (hA : ∀ i ∈ A, i ∈ withinT S) (hc : ∀ n ∈ S, n ∈ meantT A) : fewT S ≤ A.length := by
  have : ∃ B : List Itm, (∀ j ∈ B, j ∈ greatT S) ∧ B.length = A.length ∧ ∀ n, n ∈ meantT A → n ∈ meantT B := by
    clear hc
    induction A with
    | nil => exact ⟨[], by simp, rfl, fun n h => h⟩
    | cons i r ih =>
      obtain ⟨B, b1, b2, b3⟩ := ih fun j hj => hA j (by simp [hj])
      obtain ⟨j, hj, hs⟩ := dom 10 i (by omega) (hA i (by simp))
      refine ⟨j :: B, fun m hm => ?_, by simp [b2], fun n hn => ?_⟩
      · rcases List.mem_cons.mp hm with rfl | hm
        · exact hj
        · exact b1 m hm
      · rw [mem_meant, mem_flat] at hn ⊢
        obtain ⟨m, hm, hnm⟩ := hn
        rcases List.mem_cons.mp hm with rfl | hm
        · exact ⟨j, by simp, hs n hnm⟩
        · obtain ⟨q, hq, hnq⟩ := mem_flat.mp (mem_meant.mp (b3 n (mem_meant.mpr (mem_flat.mpr ⟨m, hm, hnm⟩))))
          exact ⟨q, by simp [hq], hnq⟩
  obtain ⟨B, b1, b2, b3⟩ := this
  rw [← b2, ← costF]
  refine lenOf_le _ (fun p hp => ?_) _ _ _ (Nat.le_refl _) (fun p hp => ?_) (coversF fun n hn => b3 n (hc n hn))
  · obtain ⟨i, _, rfl⟩ := List.mem_map.mp hp
    show (0 : Int) ≤ 1
    decide
  · obtain ⟨i, hi, rfl⟩ := List.mem_map.mp hp
    exact List.mem_map.mpr ⟨i, b1 i hi, rfl⟩
theorem few_le' {A : List Itm} (hA : ∀ i ∈ A, i ∈ items110) : fewT (meantT A) ≤ A.length := few_le (fun i hi => mem_within.mpr ⟨hA i hi, mem_meant_of hi⟩) fun n h => h
theorem few_get {S : List Int} (h : S ∈ subsL ten) : ∃ A : List Itm, (∀ i ∈ A, i ∈ greatT S) ∧ meantT A = S ∧ (A.length : Int) = fewT S := by
  obtain ⟨L, h1, h2, h3⟩ := lenOf_get (evF S) _ S (Nat.le_refl _) (evF_covers h)
  have : ∀ L : List Pc, (∀ p ∈ L, p ∈ evF S) → ∃ A : List Itm, (∀ i ∈ A, i ∈ greatT S) ∧ L = A.map pcF := by
    intro L
    induction L with
    | nil => exact fun _ => ⟨[], by simp, rfl⟩
    | cons p r ih =>
      intro hp
      obtain ⟨A, hA, rfl⟩ := ih fun q hq => hp q (by simp [hq])
      obtain ⟨i, hi, rfl⟩ := List.mem_map.mp (hp p (by simp))
      exact ⟨i :: A, fun j hj => by
        rcases List.mem_cons.mp hj with rfl | hj
        · exact hi
        · exact hA j hj, rfl⟩
  obtain ⟨A, hA, rfl⟩ := this L h1
  refine ⟨A, hA, meant_eq h fun n hn => ⟨fun hf => ?_, fun hs => ?_⟩, ?_⟩
  · obtain ⟨i, hi, hni⟩ := mem_flat.mp hf
    exact (mem_within.mp (great_within (hA i hi))).2 n hni
  · obtain ⟨p, hp, hnp⟩ := h2 n hs
    obtain ⟨i, hi, rfl⟩ := List.mem_map.mp hp
    exact mem_flat.mpr ⟨i, hi, hnp⟩
  · rw [← costF]; exact h3
theorem few_both {S T : List Int} (hS : S ∈ subsL ten) (hT : T ∈ subsL ten) : fewT (bothT S T) ≤ fewT S + fewT T := by
  obtain ⟨A, a1, a2, a3⟩ := few_get hS
  obtain ⟨B, b1, b2, b3⟩ := few_get hT
  have e := few_le' (A := A ++ B) (mem_app (fun i hi => within110 S i (great_within (a1 i hi))) fun i hi => within110 T i (great_within (b1 i hi)))
  rw [meant_app, a2, b2, List.length_append] at e
  omega
theorem wLen2 {i : Itm} (h : i ∈ items110) : 2 ≤ wLen i := by
  have := (by decide +kernel : ∀ i ∈ items110, 1 ≤ (wd i).length) i h
  unfold wLen
  omega
theorem cost_ge {A : List Itm} (hA : ∀ i ∈ A, i ∈ items110) : 2 * (A.length : Int) ≤ costA A := by
  induction A with
  | nil => simp [costA]
  | cons i r ih =>
    have h1 := ih fun j hj => hA j (by simp [hj])
    have h2 := wLen2 (hA i (by simp))
    simp [costA] at h1 ⊢
    omega
/-- each item has a sign and a comma at least -/
theorem few_len {S : List Int} (h : S ∈ subsL ten) : 2 * fewT S ≤ lenT S := by
  obtain ⟨A, a1, a2, a3⟩ := best_text h
  have h1 := cost_ge fun i hi => within110 S i (a1 i hi)
  have h2 := few_le (A := A) a1 fun n hn => by rw [a2]; exact hn
  omega
end Rt
namespace Rt
open PySem PySem.Spec PyProof.Rows L2
/-! ### sets of the first numbers -/
theorem upto_sets {m : Nat} (hm : m ≤ 10) {S : List Int} (h : S ∈ setsTo m) : S ∈ sets ∧ ∀ n ∈ S, n ≤ m := by
  obtain ⟨h1, h2⟩ := List.mem_filter.mp h
  have up : ∀ n ∈ upto m, n ∈ ten ∧ n ≤ m := fun n hn => by
    unfold upto at hn
    obtain ⟨i, hi, rfl⟩ := List.mem_map.mp hn
    have := List.mem_range.mp hi
    refine ⟨?_, by omega⟩
    simp [ten]
    omega
  have hs := subs_ten h1
  have nd : (upto m).Pairwise (· < ·) := by
    unfold upto
    rw [List.pairwise_map]
    exact List.pairwise_lt_range.imp fun {a b} h => by omega
  have e : ten.filter (fun n => decide (n ∈ S)) = S := by
    have e1 := subs_filter_eq (nd.imp fun {a b} h => by omega) h1
    refine sorted_unique (ten_row.filter _) ?_ fun n => ?_
    · rw [e1]; exact nd.filter _
    · rw [List.mem_filter, decide_eq_true_eq]
      exact ⟨fun z => z.2, fun z => ⟨(up n (hs n z)).1, z⟩⟩
  refine ⟨mem_sets ?_ ?_, fun n hn => (up n (hs n hn)).2⟩
  · rw [← e]; exact subs_filter _ ten
  · intro z
    subst z
    cases h2
theorem gain_le {S : List Int} (hS : S ∈ subsL ten) {n : Int} (hn : n ∈ ten) : gainT S n ≤ (wd (one1 n)).length + 1 := by
  have s1 := subs_single ten n hn
  have h1 := lenT_both hS s1
  have hf := F_one n hn
  have h2 := lenT_le (A := [one1 n]) (by simpa using hf.1)
  have hm : meantT [one1 n] = [n] := meant_one s1
  rw [hm] at h2
  unfold gainT lengthT
  simp [costA, wLen] at h2
  omega
theorem wo_both {S : List Int} (hS : S ∈ subsL ten) {n : Int} (hn : n ∈ ten) (ho : n ∉ S) : woT (bothT S [n]) n = S := set_ext (wo_subs (both_subs _ _) n) hS fun m hm => by
  unfold woT
  rw [List.mem_filter, mem_both hS (subs_single ten n hn)]
  by_cases h : m = n
  · subst h; simp [ho]
  · simp [h]
theorem both_wo {S : List Int} (hS : S ∈ subsL ten) {n : Int} (hn : n ∈ S) : bothT (woT S n) [n] = S := set_ext (both_subs _ _) hS fun m hm => by
  rw [mem_both (wo_subs hS n) (subs_single ten n (subs_ten hS n hn))]
  unfold woT
  rw [List.mem_filter]
  by_cases h : m = n
  · subst h; simp [hn]
  · simp [h]
theorem both_in {S : List Int} (hS : S ∈ subsL ten) {n : Int} (hn : n ∈ S) : bothT S [n] = S := set_ext (both_subs _ _) hS fun m hm => by
  rw [mem_both hS (subs_single ten n (subs_ten hS n hn))]
  by_cases h : m = n
  · subst h; simp [hn]
  · simp [h]
theorem wo_len {S : List Int} (hS : S ∈ subsL ten) {n : Int} (hn : n ∈ S) : (woT S n).length + 1 = S.length := by
  have e : woT S n = S.erase n := by
    rw [(set_nodup hS).erase_eq_filter]
    unfold woT
    apply List.filter_congr
    intro m _
    by_cases h : m = n <;> simp [h]
  rw [e, List.length_erase_of_mem hn]
  have := List.length_pos_of_mem hn
  omega
theorem filter_one {l : List Int} (nd : l.Nodup) {n : Int} (hn : n ∈ l) : l.filter (fun m => m == n) = [n] := by
  induction l with
  | nil => cases hn
  | cons a r ih =>
    obtain ⟨h1, h2⟩ := List.nodup_cons.mp nd
    rcases List.mem_cons.mp hn with rfl | hn
    · rw [List.filter_cons, if_pos (by simp), List.filter_eq_nil_iff.mpr fun m hm => by
        simp
        intro z
        exact h1 (z ▸ hm)]
    · have : a ≠ n := fun z => h1 (z ▸ hn)
      rw [List.filter_cons, if_neg (by simpa using this), ih h2 hn]
theorem few_one {n : Int} (hn : n ∈ ten) : fewT [n] ≤ 1 := by
  have hf := F_one n hn
  have := few_le' (A := [one1 n]) (by simpa using hf.1)
  have hm : meantT [one1 n] = [n] := meant_one (subs_single ten n hn)
  rw [hm] at this
  simpa using this
theorem len_one {n : Int} (hn : n ∈ ten) : lenT [n] ≤ (wd (one1 n)).length + 1 := by
  have hf := F_one n hn
  have h2 := lenT_le (A := [one1 n]) (by simpa using hf.1)
  have hm : meantT [one1 n] = [n] := meant_one (subs_single ten n hn)
  rw [hm] at h2
  simpa [costA, wLen] using h2
theorem text_one (i : Itm) : text [i] = wd i := by
  apply TL.ext_tl
  unfold text
  rw [TL.join_eq, TL.tl_join]
  rfl
theorem out_ten_nodup (S : List Int) : (outT ten S).Nodup := ten_nodup.filter _
theorem mem_out {S : List Int} {n : Int} : n ∈ outT ten S ↔ n ∈ ten ∧ n ∉ S := by unfold outT; simp
theorem gains_fst (S : List Int) : (gainsT S).map (·.1) = outT ten S := by
  unfold gainsT
  rw [List.map_map]
  exact List.map_id _
theorem bests_eq (S : List Int) : bestsT S = (outT ten S).filter fun n => gainT S n == leastG S := by
  unfold bestsT gainsT
  rw [List.filter_map, List.map_map]
  exact List.map_id _
theorem best_props {S : List Int} {n : Int} {r : List Int} (h : bestsT S = n :: r) : n ∈ ten ∧ n ∉ S ∧ gainT S n = leastG S ∧ (∀ m ∈ outT ten S, leastG S ≤ gainT S m) ∧ ∀ m ∈ outT ten S, gainT S m = leastG S → n ≤ m := by
  have hb := bests_eq S
  rw [h] at hb
  have hn : n ∈ (outT ten S).filter fun n => gainT S n == leastG S := by rw [← hb]; simp
  obtain ⟨h1, h2⟩ := List.mem_filter.mp hn
  obtain ⟨h3, h4⟩ := mem_out.mp h1
  refine ⟨h3, h4, by simpa using h2, fun m hm => ?_, fun m hm he => ?_⟩
  · refine (minL_mem (l := (gainsT S).map (·.2)) ?_).2 _ (List.mem_map.mpr ⟨(m, gainT S m), List.mem_map.mpr ⟨m, hm, rfl⟩, rfl⟩)
    intro z
    have : gainsT S = [] := by simpa using z
    have : (gainsT S).map (·.1) = [] := by rw [this]; rfl
    rw [gains_fst] at this
    rw [this] at hm
    cases hm
  · have hmb : m ∈ n :: r := by rw [hb]; exact List.mem_filter.mpr ⟨hm, by simpa using he⟩
    have pw : (n :: r).Pairwise (· < ·) := by
      rw [hb]
      exact (ten_row.filter _).filter _
    rcases List.mem_cons.mp hmb with rfl | hmr
    · exact Int.le_refl _
    · exact Int.le_of_lt ((List.pairwise_cons.mp pw).1 m hmr)
theorem within_nodup (S : List Int) : (withinT S).Nodup := items_nodup.filter _
theorem dLen_str {z : Str} (h : z.length ≤ 1000000) : dLen [.str z] = some (.val (.int z.length)) := by simp only [dLen]; rw [if_pos h]
end Rt
namespace Rt
open PySem PySem.Spec PyProof.Rows L2
/-! ### texts without needless items -/
def fi (A : List Itm) : Option Nat := (List.range A.length).find? (idleB A)
def fixT : Nat → List Itm → List Itm
  | 0, A => A
  | n + 1, A => match fi A with
    | some k => fixT n (dropAt A k)
    | none => A
def prunedT (A : List Itm) : List Itm := fixT A.length A
theorem fi_some {A : List Itm} {k : Nat} (h : fi A = some k) : k < A.length ∧ idleB A k = true ∧ ∀ j, j < k → idleB A j = false := by
  unfold fi at h
  rw [List.find?_range_eq_some] at h
  obtain ⟨h1, h2, h3⟩ := h
  exact ⟨List.mem_range.mp h2, h1, fun j hj => by simpa using h3 j hj⟩
theorem fi_none {A : List Itm} (h : fi A = none) : ∀ j, j < A.length → idleB A j = false := fun j hj => by
  unfold fi at h
  have := List.find?_eq_none.mp h j (List.mem_range.mpr hj)
  simpa using this
theorem fi_of {A : List Itm} {k : Nat} (h1 : k < A.length) (h2 : idleB A k = true) (h3 : ∀ j, j < k → idleB A j = false) : fi A = some k := by
  unfold fi
  rw [List.find?_range_eq_some]
  exact ⟨h2, List.mem_range.mpr h1, fun j hj => by simp [h3 j hj]⟩
theorem fi_nil {A : List Itm} (h : ∀ j, j < A.length → idleB A j = false) : fi A = none := by
  unfold fi
  rw [List.find?_eq_none]
  intro j hj
  simp [h j (List.mem_range.mp hj)]
theorem idle_props {A : List Itm} {k : Nat} (h : idleB A k = true) : dropAt A k ≠ [] ∧ meantT (dropAt A k) = meantT A := by
  unfold idleB at h
  simp only [Bool.and_eq_true, Bool.not_eq_true', decide_eq_false_iff_not, decide_eq_true_eq] at h
  exact h
theorem drop_len' {A : List Itm} {k : Nat} (h : k < A.length) : (dropAt A k).length + 1 = A.length := by
  unfold dropAt
  rw [List.length_append, List.length_take, List.length_drop]
  omega
theorem fix_props : ∀ (n : Nat) (A : List Itm), A ≠ [] → fixT n A ≠ [] ∧ meantT (fixT n A) = meantT A ∧ (∀ i ∈ fixT n A, i ∈ A) ∧ (fixT n A).length ≤ A.length ∧ costA (fixT n A) ≤ costA A
  | 0, A, h => ⟨h, rfl, fun i hi => hi, Nat.le_refl _, Int.le_refl _⟩
  | n + 1, A, h => by
    unfold fixT
    cases hf : fi A with
    | none => exact ⟨h, rfl, fun i hi => hi, Nat.le_refl _, Int.le_refl _⟩
    | some k =>
      obtain ⟨h1, h2, _⟩ := fi_some hf
      obtain ⟨h3, h4⟩ := idle_props h2
      obtain ⟨q1, q2, q3, q4, q5⟩ := fix_props n (dropAt A k) h3
      have hd := drop_len' h1
      have hm : ∀ i ∈ dropAt A k, i ∈ A := fun i hi => by
        rcases List.mem_append.mp hi with hi | hi
        · exact List.mem_of_mem_take hi
        · exact List.mem_of_mem_drop hi
      have hc : costA (dropAt A k) ≤ costA A := by
        have e : A = A.take k ++ (A.drop k) := (List.take_append_drop k A).symm
        have e2 : A.drop k = A[k] :: A.drop (k + 1) := List.drop_eq_getElem_cons h1
        have e3 : costA A = costA (A.take k) + (wLen A[k] + costA (A.drop (k + 1))) := by
          rw [e2] at e
          have := congrArg costA e
          rw [cost_app] at this
          rw [this]
          simp only [costA, List.map_cons, List.sum_cons]
        have e4 : costA (dropAt A k) = costA (A.take k) + costA (A.drop (k + 1)) := cost_app _ _
        have := wLen_pos A[k]
        omega
      exact ⟨q1, q2.trans h4, fun i hi => hm i (q3 i hi), by show (fixT n (dropAt A k)).length ≤ _; omega, Int.le_trans q5 hc⟩
theorem fix_done : ∀ (n : Nat) (A : List Itm), A.length ≤ n + 1 → fi (fixT n A) = none
  | 0, A, h => by
    unfold fixT
    refine fi_nil fun j hj => ?_
    match A, h with
    | [], _ => simp at hj
    | [a], _ =>
      have : j = 0 := by simp at hj; omega
      subst this
      simp [idleB, dropAt]
  | n + 1, A, h => by
    unfold fixT
    cases hf : fi A with
    | none => exact hf
    | some k =>
      obtain ⟨h1, _⟩ := fi_some hf
      have := drop_len' h1
      exact fix_done n (dropAt A k) (by omega)
theorem fix_none {A : List Itm} (h : fi A = none) : ∀ n, fixT n A = A
  | 0 => rfl
  | n + 1 => by unfold fixT; rw [h]
theorem fix_more : ∀ (n : Nat) (A : List Itm), A.length ≤ n + 1 → ∀ m, n ≤ m → fixT m A = fixT n A
  | n, A, h, m, hm => by
    cases hf : fi A with
    | none => rw [fix_none hf, fix_none hf]
    | some k =>
      obtain ⟨h1, h2, _⟩ := fi_some hf
      have hd := drop_len' h1
      obtain ⟨h3, _⟩ := idle_props h2
      have : 0 < (dropAt A k).length := List.length_pos_iff.mpr h3
      cases n with
      | zero => omega
      | succ n =>
        cases m with
        | zero => omega
        | succ m =>
          unfold fixT
          rw [hf]
          exact fix_more n (dropAt A k) (by omega) m (by omega)
theorem pruned_fi (A : List Itm) : fi (prunedT A) = none := fix_done _ _ (by omega)
theorem needless_none {A : List Itm} (h : fi A = none) : needlessT A = [] := by
  unfold needlessT
  rw [List.filter_eq_nil_iff.mpr fun k hk => by simp [fi_none h k (List.mem_range.mp hk)]]
  rfl
theorem pruned_pruned (A : List Itm) : prunedT (prunedT A) = prunedT A := fix_none (pruned_fi A) _
/-! ### pruned -/
def Fu : Nat → Nat
  | 0 => 1
  | L + 1 => (L + 2) + Fu L
abbrev prT : M Bool := tst (bin dLt (eVar 2) (callD dLen (aLast (eVar 1))))
abbrev prB : M Fl := sSeq (sAsg 3 (sto (bin dAdd (slc (eVar 1) (noI) (soI (eVar 2))) (slc (eVar 1) (soI (bin dAdd (eVar 2) (eC (.int 1)))) (noI))))) (sIf (mAnd (tst (bin dNe (eVar 3) (mkLst (aNil)))) (tst (bin dEq (callV 1 g_set_of (aLast (sto (eVar 3)))) (callV 1 g_set_of (aLast (sto (eVar 1))))))) (sSeq (sAsg 1 (sto (eVar 3))) (sAsg 2 (eC (.int 0)))) (augM 2 (eC (.int 1))))
theorem drop_ev {A : List Itm} {k : Nat} (hk : k < A.length) (hl : A.length ≤ 300) {Γ : En} {a b : Nat} (ha : Γ[a]? = some (.val (di A))) (hb : Γ[b]? = some (.val (.int k))) :
    bin dAdd (slc (eVar a) (noI) (soI (eVar b))) (slc (eVar a) (soI (bin dAdd (eVar b) (eC (.int 1)))) (noI)) Γ = .ok (.own (.lst ((dropAt A k).map iD))) Γ := by
  have c1 : dSl (.list (A.map iD)) none (some (k : Int)) = some (.own (.lst ((A.map iD).take k))) := by
    simp only [dSl]; rw [cut_lo (by simp; omega)]
  have c2 : dSl (.list (A.map iD)) (some ((k : Int) + 1)) none = some (.own (.lst ((A.map iD).drop (k + 1)))) := by
    have : ((k : Int) + 1) = ((k + 1 : Nat) : Int) := by omega
    simp only [dSl]; rw [this, cut_hi (by simp; omega)]
  have c3 : dAdd (.list ((A.map iD).take k)) (.list ((A.map iD).drop (k + 1))) = some (.own (.lst ((dropAt A k).map iD))) := by
    rw [dAdd_list, if_pos (by simp; omega), ← List.map_take, ← List.map_drop, ← List.map_append]; rfl
  simp only [di] at ha
  simp [ha, hb, c1, c2, c3, -dAdd_list]
theorem pr_wh (y : Sl) : ∀ (L : Nat) (d : Nat) (A : List Itm) (k n : Nat) (z3 : Sl), A.length = L → A ≠ [] → (∀ i ∈ A, i ∈ items110) → L ≤ 300 → k + d = L → (∀ j, j < k → idleB A j = false) → d + 1 + Fu (L - 1) ≤ n →
    ∃ z2' z3', sWhile prT prB n [y, .val (di A), .val (.int k), z3, .un] = .ok .nx [y, .val (di (prunedT A)), z2', z3', .un]
  | L, 0, A, k, n, z3, hL, hne, hA, hl, hkd, hno, hn => by
    have hk : k = A.length := by omega
    have hf : fi A = none := fi_nil fun j hj => hno j (by omega)
    have hp : prunedT A = A := fix_none hf _
    obtain ⟨m, rfl⟩ : ∃ m, n = m + 1 := ⟨n - 1, by omega⟩
    refine ⟨.val (.int k), z3, ?_⟩
    rw [wh_stop (by
      have : ¬ (k : Int) < A.length := by omega
      simp [this]), hp]
  | L, d + 1, A, k, n, z3, hL, hne, hA, hl, hkd, hno, hn => by
    have hk : k < A.length := by omega
    obtain ⟨m, rfl⟩ : ∃ m, n = m + 1 := ⟨n - 1, by omega⟩
    have ht : prT [y, .val (di A), .val (.int k), z3, .un] = .ok true [y, .val (di A), .val (.int k), z3, .un] := by
      have : (k : Int) < A.length := by omega
      simp [this]
    have ev := drop_ev hk (by omega) (Γ := [y, .val (di A), .val (.int k), z3, .un]) (a := 1) (b := 2) rfl rfl
    have a1 := asg_v (i := 3) ev rfl (by simp)
    have s1 := retV_of (set_of_ok hA (by omega))
    have s2 := retV_of (set_of_ok (drop_mem (k := k) hA) (Nat.le_trans drop_len (by omega)))
    by_cases hi : idleB A k = true
    · obtain ⟨h3, h4⟩ := idle_props hi
      have hf := fi_of hk hi hno
      have hd := drop_len' hk
      have hdl : 0 < (dropAt A k).length := List.length_pos_iff.mpr h3
      have hp : prunedT A = prunedT (dropAt A k) := by
        unfold prunedT
        have : A.length = (dropAt A k).length + 1 := hd.symm
        rw [this, fixT, hf]
      have a2 : sIf (mAnd (tst (bin dNe (eVar 3) (mkLst (aNil)))) (tst (bin dEq (callV 1 g_set_of (aLast (sto (eVar 3)))) (callV 1 g_set_of (aLast (sto (eVar 1))))))) (sSeq (sAsg 1 (sto (eVar 3))) (sAsg 2 (eC (.int 0)))) (augM 2 (eC (.int 1))) [y, .val (di A), .val (.int k), .val (di (dropAt A k)), .un] = .ok .nx [y, .val (di (dropAt A k)), .val (.int 0), .val (di (dropAt A k)), .un] := by
        rw [h4] at s2
        simp [ne_nil_itm, h3, s1, s2, eq_dl]
      obtain ⟨b, c, q⟩ := pr_wh y (L - 1) (L - 1) (dropAt A k) 0 m (.val (di (dropAt A k))) (by omega) h3 (drop_mem hA) (by omega) (by omega) (fun j hj => absurd hj (Nat.not_lt_zero _)) (by
        obtain ⟨l, rfl⟩ : ∃ l, L = l + 2 := ⟨L - 2, by omega⟩
        have e : Fu (l + 2 - 1) = (l + 2) + Fu l := rfl
        have e2 : l + 2 - 1 - 1 = l := by omega
        rw [e2]
        omega)
      refine ⟨b, c, ?_⟩
      rw [hp, wh_step ht (sq a1 a2)]
      exact q
    · have hi : idleB A k = false := Bool.eq_false_iff.mpr hi
      have a2 : sIf (mAnd (tst (bin dNe (eVar 3) (mkLst (aNil)))) (tst (bin dEq (callV 1 g_set_of (aLast (sto (eVar 3)))) (callV 1 g_set_of (aLast (sto (eVar 1))))))) (sSeq (sAsg 1 (sto (eVar 3))) (sAsg 2 (eC (.int 0)))) (augM 2 (eC (.int 1))) [y, .val (di A), .val (.int k), .val (di (dropAt A k)), .un] = .ok .nx [y, .val (di A), .val (.int ((k + 1 : Nat) : Int)), .val (di (dropAt A k)), .un] := by
        by_cases h3 : dropAt A k = []
        · have hq : dNe (.list ((dropAt A k).map iD)) (.list []) = some (.val (.bool false)) := by rw [ne_nil_itm, decide_eq_true h3]; rfl
          simp [hq]
        · have h4 : meantT (dropAt A k) ≠ meantT A := fun z => by
            unfold idleB at hi
            rw [decide_eq_false h3, decide_eq_true z] at hi
            cases hi
          simp [ne_nil_itm, h3, s1, s2, eq_dl, h4]
      obtain ⟨b, c, q⟩ := pr_wh y L d A (k + 1) m (.val (di (dropAt A k))) hL hne hA hl (by omega) (fun j hj => by
        by_cases h : j = k
        · subst h; exact hi
        · exact hno j (by omega)) (by omega)
      refine ⟨b, c, ?_⟩
      rw [wh_step ht (sq a1 a2)]
      exact q
  termination_by L d => (L, d)
theorem Fu_le : ∀ L, L ≤ 20 → Fu L ≤ 231 := by
  intro L h
  have : ∀ L, L ≤ 20 → Fu L ≤ 231 := by decide
  exact this L h
theorem pruned_ok {A : List Itm} (hA : ∀ i ∈ A, i ∈ items110) (hne : A ≠ []) (hl : A.length ≤ 20) : vOf (g_pruned [.val (.str (text A))]) = some (.val (.str (text (prunedT A)))) := by
  have hpos : 0 < A.length := List.length_pos_iff.mpr hne
  have hfu := Fu_le (A.length - 1) (by omega)
  obtain ⟨b, c, q⟩ := pr_wh (.val (.str (text A))) A.length A.length A 0 400 .un rfl hne hA (by omega) (by omega) (fun j hj => absurd hj (Nat.not_lt_zero _)) (by omega)
  obtain ⟨p1, p2, p3, p4, p5⟩ := fix_props A.length A hne
  have j := join_val (g := g_text_of) (v := 4) (i := 1) (Γ := [.val (.str (text A)), .val (di (prunedT A)), b, c, .un]) (its := prunedT A) F_text_of (fun i hi => hA i (p3 i hi)) (by show (fixT A.length A).length ≤ _; omega) rfl rfl
  have e : m_pruned ([.val (.str (text A))] ++ List.replicate 4 .un) = .ok (.ret (.val (.str (text (prunedT A))))) [.val (.str (text A)), .val (di (prunedT A)), b, c, .un] := by
    unfold m_pruned
    refine sq (Γ1 := [.val (.str (text A)), .un, .un, .un, .un]) (by simp [retV_of (check_text_ok hA hne (by omega))]) (sq (Γ1 := [.val (.str (text A)), .val (di A), .un, .un, .un]) (by simp [retV_of (items_in_ok hA hne (by omega))]) (sq (Γ1 := [.val (.str (text A)), .val (di A), .val (.int 0), .un, .un]) (by simp) (sq q ?_)))
    rw [ap_sRet, j]
    rfl
  refine vOf_ok (Γ := [.val (.str (text A)), .val (di (prunedT A)), b, c, .un]) ?_ (fun _ => nofun)
  unfold g_pruned
  rw [ap_fnX, e, finX_ret]
end Rt
namespace Rt
open PySem PySem.Spec PyProof.Rows L2
def top (i : Nat) : Stmt := PySem.Challenge.pw_rangetexts_k14_more_errors.main.body.getD i (.Pass ⟨0, 0, 0, 0⟩)
def met (j : Nat) : Stmt := match top 55 with
  | .ClassDef _ _ _ body _ _ _ _ _ _ _ => body.getD j (.Pass ⟨0, 0, 0, 0⟩)
  | _ => .Pass ⟨0, 0, 0, 0⟩
structure Txt (K : PySem.W.Frag) (mg : Str → Option Value) : Prop where
  gM : mg "Marker" = some (.ref (CK K 9))
  mM : MkF K
  mkr : Mk K (CK K 9) (He.ma K (CK K 9) "__init__")
  d_M_init : ∃ fd, FunD K "__init__" "Marker.__init__" (defArgs (met 0)) (defBody (met 0)) (defScope (met 0)) [] [] (He.ma K (CK K 9) "__init__") fd
  g_L_pick : mg "_law_pick" = some (.ref (He.ga K "_law_pick"))
  d_L_pick : ∃ fd, FunD K "_law_pick" "_law_pick" (defArgs (top 59)) (defBody (top 59)) (defScope (top 59)) [] [] (He.ga K "_law_pick") fd
  d_M_undo : ∃ fd, FunD K "undo" "Marker.undo" (defArgs (met 6)) (defBody (met 6)) (defScope (met 6)) [] [] (He.ma K (CK K 9) "undo") fd
  mt_undo : Meth K (CK K 9) "undo" (He.ma K (CK K 9) "undo")
  g_L_error : mg "_law_error" = some (.ref (He.ga K "_law_error"))
  d_L_error : ∃ fd, FunD K "_law_error" "_law_error" (defArgs (top 60)) (defBody (top 60)) (defScope (top 60)) [] [] (He.ga K "_law_error") fd
  d_M_marked : ∃ fd, FunD K "marked" "Marker.marked" (defArgs (met 3)) (defBody (met 3)) (defScope (met 3)) [] [] (He.ma K (CK K 9) "marked") fd
  mt_marked : Meth K (CK K 9) "marked" (He.ma K (CK K 9) "marked")
  g_is_int : mg "is_int" = some (.ref (He.ga K "is_int"))
  d_is_int : ∃ fd, FunD K "is_int" "is_int" (defArgs (top 8)) (defBody (top 8)) (defScope (top 8)) [] [] (He.ga K "is_int") fd
  g_is_item : mg "is_item" = some (.ref (He.ga K "is_item"))
  d_is_item : ∃ fd, FunD K "is_item" "is_item" (defArgs (top 11)) (defBody (top 11)) (defScope (top 11)) [] [] (He.ga K "is_item") fd
  g_check_item : mg "check_item" = some (.ref (He.ga K "check_item"))
  d_check_item : ∃ fd, FunD K "check_item" "check_item" (defArgs (top 12)) (defBody (top 12)) (defScope (top 12)) [] [] (He.ga K "check_item") fd
  g_numbers_of : mg "numbers_of" = some (.ref (He.ga K "numbers_of"))
  d_numbers_of : ∃ fd, FunD K "numbers_of" "numbers_of" (defArgs (top 15)) (defBody (top 15)) (defScope (top 15)) [] [] (He.ga K "numbers_of") fd
  d_M_clear : ∃ fd, FunD K "clear" "Marker.clear" (defArgs (met 2)) (defBody (met 2)) (defScope (met 2)) [] [] (He.ma K (CK K 9) "clear") fd
  mt_clear : Meth K (CK K 9) "clear" (He.ma K (CK K 9) "clear")
  d_M_mark : ∃ fd, FunD K "mark" "Marker.mark" (defArgs (met 1)) (defBody (met 1)) (defScope (met 1)) [] [] (He.ma K (CK K 9) "mark") fd
  mt_mark : Meth K (CK K 9) "mark" (He.ma K (CK K 9) "mark")
  d_M_len : ∃ fd, FunD K "__len__" "Marker.__len__" (defArgs (met 7)) (defBody (met 7)) (defScope (met 7)) [] [] (He.ma K (CK K 9) "__len__") fd
  mt_len : Meth K (CK K 9) "__len__" (He.ma K (CK K 9) "__len__")
  g_text_of : mg "text_of" = some (.ref (He.ga K "text_of"))
  d_text_of : ∃ fd, FunD K "text_of" "text_of" (defArgs (top 17)) (defBody (top 17)) (defScope (top 17)) [] [] (He.ga K "text_of") fd
  g_runs_of : mg "runs_of" = some (.ref (He.ga K "runs_of"))
  d_runs_of : ∃ fd, FunD K "runs_of" "runs_of" (defArgs (top 35)) (defBody (top 35)) (defScope (top 35)) [] [] (He.ga K "runs_of") fd
  g_plain_of : mg "plain_of" = some (.ref (He.ga K "plain_of"))
  d_plain_of : ∃ fd, FunD K "plain_of" "plain_of" (defArgs (top 36)) (defBody (top 36)) (defScope (top 36)) [] [] (He.ga K "plain_of") fd
  d_M_text : ∃ fd, FunD K "text" "Marker.text" (defArgs (met 4)) (defBody (met 4)) (defScope (met 4)) [] [] (He.ma K (CK K 9) "text") fd
  mt_text : Meth K (CK K 9) "text" (He.ma K (CK K 9) "text")
  g_least_from : mg "least_from" = some (.ref (He.ga K "least_from"))
  d_least_from : ∃ fd, FunD K "least_from" "least_from" (defArgs (top 41)) (defBody (top 41)) (defScope (top 41)) [] [] (He.ga K "least_from") fd
  g_covers_fromT : mg "covers_from" = some (.ref (He.ga K "covers_from"))
  d_covers_fromT : ∃ fd, FunD K "covers_from" "covers_from" (defArgs (top 43)) (defBody (top 43)) (defScope (top 43)) [] [] (He.ga K "covers_from") fd
  g_within_of : mg "within_of" = some (.ref (He.ga K "within_of"))
  d_within_of : ∃ fd, FunD K "within_of" "within_of" (defArgs (top 22)) (defBody (top 22)) (defScope (top 22)) [] [] (He.ga K "within_of") fd
  g_weighed : mg "weighed" = some (.ref (He.ga K "weighed"))
  d_weighed : ∃ fd, FunD K "weighed" "weighed" (defArgs (top 40)) (defBody (top 40)) (defScope (top 40)) [] [] (He.ga K "weighed") fd
  g_covers_ofT : mg "covers_of" = some (.ref (He.ga K "covers_of"))
  d_covers_ofT : ∃ fd, FunD K "covers_of" "covers_of" (defArgs (top 44)) (defBody (top 44)) (defScope (top 44)) [] [] (He.ga K "covers_of") fd
  d_M_shortT : ∃ fd, FunD K "short" "Marker.short" (defArgs (met 5)) (defBody (met 5)) (defScope (met 5)) [] [] (He.ma K (CK K 9) "short") fd
  mt_short : Meth K (CK K 9) "short" (He.ma K (CK K 9) "short")
  g_item_numbers : mg "item_numbers" = some (.ref (He.ga K "item_numbers"))
  d_item_numbers : ∃ fd, FunD K "item_numbers" "item_numbers" (defArgs (top 16)) (defBody (top 16)) (defScope (top 16)) [] [] (He.ga K "item_numbers") fd
  g_L_markerT : mg "_law_marker" = some (.ref (He.ga K "_law_marker"))
  d_L_markerT : ∃ fd, FunD K "_law_marker" "_law_marker" (defArgs (top 66)) (defBody (top 66)) (defScope (top 66)) [] [] (He.ga K "_law_marker") fd
  g_L_items : mg "_law_items" = some (.ref (He.ga K "_law_items"))
  d_L_items : ∃ fd, FunD K "_law_items" "_law_items" (defArgs (top 61)) (defBody (top 61)) (defScope (top 61)) [] [] (He.ga K "_law_items") fd
  g_L_word : mg "_law_word" = some (.ref (He.ga K "_law_word"))
  d_L_word : ∃ fd, FunD K "_law_word" "_law_word" (defArgs (top 62)) (defBody (top 62)) (defScope (top 62)) [] [] (He.ga K "_law_word") fd
  g_is_set : mg "is_set" = some (.ref (He.ga K "is_set"))
  d_is_set : ∃ fd, FunD K "is_set" "is_set" (defArgs (top 9)) (defBody (top 9)) (defScope (top 9)) [] [] (He.ga K "is_set") fd
  g_check_set : mg "check_set" = some (.ref (He.ga K "check_set"))
  d_check_set : ∃ fd, FunD K "check_set" "check_set" (defArgs (top 10)) (defBody (top 10)) (defScope (top 10)) [] [] (He.ga K "check_set") fd
  g_number_in : mg "number_in" = some (.ref (He.ga K "number_in"))
  d_number_in : ∃ fd, FunD K "number_in" "number_in" (defArgs (top 19)) (defBody (top 19)) (defScope (top 19)) [] [] (He.ga K "number_in") fd
  g_item_in : mg "item_in" = some (.ref (He.ga K "item_in"))
  d_item_in : ∃ fd, FunD K "item_in" "item_in" (defArgs (top 20)) (defBody (top 20)) (defScope (top 20)) [] [] (He.ga K "item_in") fd
  g_items_in : mg "items_in" = some (.ref (He.ga K "items_in"))
  d_items_in : ∃ fd, FunD K "items_in" "items_in" (defArgs (top 24)) (defBody (top 24)) (defScope (top 24)) [] [] (He.ga K "items_in") fd
  g_check_text : mg "check_text" = some (.ref (He.ga K "check_text"))
  d_check_text : ∃ fd, FunD K "check_text" "check_text" (defArgs (top 26)) (defBody (top 26)) (defScope (top 26)) [] [] (He.ga K "check_text") fd
  g_set_of : mg "set_of" = some (.ref (He.ga K "set_of"))
  d_set_of : ∃ fd, FunD K "set_of" "set_of" (defArgs (top 25)) (defBody (top 25)) (defScope (top 25)) [] [] (He.ga K "set_of") fd
  g_contains : mg "contains" = some (.ref (He.ga K "contains"))
  d_contains : ∃ fd, FunD K "contains" "contains" (defArgs (top 49)) (defBody (top 49)) (defScope (top 49)) [] [] (He.ga K "contains") fd
  g_parse : mg "parse" = some (.ref (He.ga K "parse"))
  d_parse : ∃ fd, FunD K "parse" "parse" (defArgs (top 28)) (defBody (top 28)) (defScope (top 28)) [] [] (He.ga K "parse") fd
  g_items : mg "items" = some (.ref (He.ga K "items"))
  d_items : ∃ fd, FunD K "items" "items" (defArgs (top 29)) (defBody (top 29)) (defScope (top 29)) [] [] (He.ga K "items") fd
  g_needless : mg "needless" = some (.ref (He.ga K "needless"))
  d_needless : ∃ fd, FunD K "needless" "needless" (defArgs (top 32)) (defBody (top 32)) (defScope (top 32)) [] [] (He.ga K "needless") fd
  g_covered_times : mg "covered_times" = some (.ref (He.ga K "covered_times"))
  d_covered_times : ∃ fd, FunD K "covered_times" "covered_times" (defArgs (top 33)) (defBody (top 33)) (defScope (top 33)) [] [] (He.ga K "covered_times") fd
  g_tidy : mg "tidy" = some (.ref (He.ga K "tidy"))
  d_tidy : ∃ fd, FunD K "tidy" "tidy" (defArgs (top 37)) (defBody (top 37)) (defScope (top 37)) [] [] (He.ga K "tidy") fd
  g_is_plain : mg "is_plain" = some (.ref (He.ga K "is_plain"))
  d_is_plain : ∃ fd, FunD K "is_plain" "is_plain" (defArgs (top 38)) (defBody (top 38)) (defScope (top 38)) [] [] (He.ga K "is_plain") fd
  g_length_of : mg "length_of" = some (.ref (He.ga K "length_of"))
  d_length_of : ∃ fd, FunD K "length_of" "length_of" (defArgs (top 42)) (defBody (top 42)) (defScope (top 42)) [] [] (He.ga K "length_of") fd
  g_is_shortest : mg "is_shortest" = some (.ref (He.ga K "is_shortest"))
  d_is_shortest : ∃ fd, FunD K "is_shortest" "is_shortest" (defArgs (top 45)) (defBody (top 45)) (defScope (top 45)) [] [] (He.ga K "is_shortest") fd
  g_shorter_by : mg "shorter_by" = some (.ref (He.ga K "shorter_by"))
  d_shorter_by : ∃ fd, FunD K "shorter_by" "shorter_by" (defArgs (top 46)) (defBody (top 46)) (defScope (top 46)) [] [] (He.ga K "shorter_by") fd
  g_pruned : mg "pruned" = some (.ref (He.ga K "pruned"))
  d_pruned : ∃ fd, FunD K "pruned" "pruned" (defArgs (top 53)) (defBody (top 53)) (defScope (top 53)) [] [] (He.ga K "pruned") fd
  g_mean_same : mg "mean_same" = some (.ref (He.ga K "mean_same"))
  d_mean_same : ∃ fd, FunD K "mean_same" "mean_same" (defArgs (top 31)) (defBody (top 31)) (defScope (top 31)) [] [] (He.ga K "mean_same") fd
  g_join_texts : mg "join_texts" = some (.ref (He.ga K "join_texts"))
  d_join_texts : ∃ fd, FunD K "join_texts" "join_texts" (defArgs (top 48)) (defBody (top 48)) (defScope (top 48)) [] [] (He.ga K "join_texts") fd
  g_L_text_call : mg "_law_text_call" = some (.ref (He.ga K "_law_text_call"))
  d_L_text_call : ∃ fd, FunD K "_law_text_call" "_law_text_call" (defArgs (top 63)) (defBody (top 63)) (defScope (top 63)) [] [] (He.ga K "_law_text_call") fd
  g_item_text : mg "item_text" = some (.ref (He.ga K "item_text"))
  d_item_text : ∃ fd, FunD K "item_text" "item_text" (defArgs (top 18)) (defBody (top 18)) (defScope (top 18)) [] [] (He.ga K "item_text") fd
  g_with_item : mg "with_item" = some (.ref (He.ga K "with_item"))
  d_with_item : ∃ fd, FunD K "with_item" "with_item" (defArgs (top 51)) (defBody (top 51)) (defScope (top 51)) [] [] (He.ga K "with_item") fd
  g_without_item : mg "without_item" = some (.ref (He.ga K "without_item"))
  d_without_item : ∃ fd, FunD K "without_item" "without_item" (defArgs (top 52)) (defBody (top 52)) (defScope (top 52)) [] [] (He.ga K "without_item") fd
  g_first_fault : mg "first_fault" = some (.ref (He.ga K "first_fault"))
  d_first_fault : ∃ fd, FunD K "first_fault" "first_fault" (defArgs (top 30)) (defBody (top 30)) (defScope (top 30)) [] [] (He.ga K "first_fault") fd
  g_parse_item : mg "parse_item" = some (.ref (He.ga K "parse_item"))
  d_parse_item : ∃ fd, FunD K "parse_item" "parse_item" (defArgs (top 21)) (defBody (top 21)) (defScope (top 21)) [] [] (He.ga K "parse_item") fd
  g_L_call : mg "_law_call" = some (.ref (He.ga K "_law_call"))
  d_L_call : ∃ fd, FunD K "_law_call" "_law_call" (defArgs (top 64)) (defBody (top 64)) (defScope (top 64)) [] [] (He.ga K "_law_call") fd
  g_L_askedM : mg "_law_asked" = some (.ref (He.ga K "_law_asked"))
  d_L_askedM : ∃ fd, FunD K "_law_asked" "_law_asked" (defArgs (top 65)) (defBody (top 65)) (defScope (top 65)) [] [] (He.ga K "_law_asked") fd
  g_is_text : mg "is_text" = some (.ref (He.ga K "is_text"))
  d_is_text : ∃ fd, FunD K "is_text" "is_text" (defArgs (top 27)) (defBody (top 27)) (defScope (top 27)) [] [] (He.ga K "is_text") fd
  g_L_draw : mg "_law_draw" = some (.ref (He.ga K "_law_draw"))
  d_L_draw : ∃ fd, FunD K "_law_draw" "_law_draw" (defArgs (top 58)) (defBody (top 58)) (defScope (top 58)) [] [] (He.ga K "_law_draw") fd
  g_L_start : mg "_law_start" = some (.ref (He.ga K "_law_start"))
  d_L_start : ∃ fd, FunD K "_law_start" "_law_start" (defArgs (top 57)) (defBody (top 57)) (defScope (top 57)) [] [] (He.ga K "_law_start") fd
  g_law : mg "law" = some (.ref (He.ga K "law"))
  d_law : ∃ fd, FunD K "law" "law" (defArgs (top 67)) (defBody (top 67)) (defScope (top 67)) [] [] (He.ga K "law") fd
  b_ValueError : mg "ValueError" = none
  b_all : mg "all" = none
  b_bool : mg "bool" = none
  b_enumerate : mg "enumerate" = none
  b_int : mg "int" = none
  b_isinstance : mg "isinstance" = none
  b_len : mg "len" = none
  b_list : mg "list" = none
  b_range : mg "range" = none
  b_set : mg "set" = none
  b_sorted : mg "sorted" = none
  b_str : mg "str" = none
  b_tuple : mg "tuple" = none
  b_zip : mg "zip" = none
  c_MOST : ∃ t, mg "MOST" = some (.int 10 t)
  c_DIGITS : ∃ t, mg "DIGITS" = some (.str "0123456789" t)
  x_0 : XF K mg 0
  x_1 : XF K mg 1
  x_2 : XF K mg 2
  x_3 : XF K mg 3
  x_4 : XF K mg 4
  xr : mg "RangeError" = some (.ref (CK K 5))
  xm : ∀ m, m < 5 → PySem.W.exmOne K (.ref (CK K m)) (.ref (CK K 5)) = some true
  xc : ∀ m, m < 5 → ExcC K (CK K m)
  xk : ∀ j, j < 5 → ∀ m, m < 5 → PySem.W.kitOne K (.ref (CK K m)) (.ref (CK K j)) = some (decide (m = j))
  xkr : ∀ m, m < 5 → PySem.W.kitOne K (.ref (CK K m)) (.ref (CK K 5)) = some true
  xv : ∀ m, m < 5 → PySem.W.kitOne K (.ref (CK K m)) (.type "ValueError") = some true
section
variable {P : Program} {w : World} {K : PySem.W.Frag} {mg : Str → Option Value} {base : Heap}
abbrev s_L_draw : Stmt := top 58
theorem sc_L_draw : FnScope ["draws", "limit", "numbers", "at", "cell", "mixed"] ["draws", "limit"] (defScope s_L_draw) := ⟨rfl, rfl, rfl, by decide +kernel, rfl, by decide +kernel, by decide +kernel⟩
theorem ok_L_draw (T : Txt K mg) : Fok P w K mg base (CK K) 1 "_law_draw" ["draws", "limit"] g_L_draw := by
  obtain ⟨fd, F⟩ := T.d_L_draw
  have hlen := T.b_len
  have hg := T.g_L_draw
  refine ⟨fd, F.ok sc_L_draw spF_len (fun cdv A outer s H vs Q E hr h => ?_), F.bindsN (fun _ _ _ _ _ _ us hl => match us, hl with | [_, _], _ => rfl), F.kp, hg⟩
  refine ⟨_, PSs.nox (pss_cons (ps_set (i := 2) sc_L_draw.nd rfl (Or.inl rfl) (pe_ix ix_list (pv 0) pe_int (fun _ _ => rfl)))
    (pss_cons (ps_asg (pe_op op_add (pe_ix ix_list (pv 0) pe_int (fun _ _ => rfl)) pe_int) (pg_sub (pv 0) pe_int set_list))
    (pss_cons (ps_set (i := 3) sc_L_draw.nd rfl (Or.inl rfl) (pe_op op_mod (pe_ix ix_list (pv 0) pe_int (fun _ _ => rfl)) (pe_callB call_len (by rfl) hlen boot_len (pa_cons (pv 2) pa_nil))))
    (pss_cons (ps_set (i := 4) sc_L_draw.nd rfl (Or.inl rfl) (pe_ix ix_list (pv 2) (pv 3) (fun _ _ => rfl)))
    (pss_cons (ps_if (pt_cmpR op_ge (pv 4) pe_int (nomark _)) (pss_cons (ps_asg (pe_op op_fdiv (pv 4) (pv 1)) (pg_sub (pv 2) (pv 3) set_list)) (pss_one (ps_ret (pe_op op_mod (pv 4) (pv 1))))) pss_nil)
    (pss_cons (ps_set (i := 5) sc_L_draw.nd rfl (Or.inl rfl) (pe_op op_mod (pe_op op_add (pv 4) (pe_op op_mul pe_int (pe_ix ix_list (pv 0) pe_int (fun _ _ => rfl)))) pe_int))
    (pss_cons (ps_set (i := 5) sc_L_draw.nd rfl (Or.inl rfl) (pe_op op_mod (pe_op op_pow (pv 5) pe_int) pe_int))
    (pss_one (ps_ret (pe_op op_mod (pe_op op_fdiv (pe_op op_mod (pe_op op_add (pe_op op_mul (pe_op op_fdiv (pv 5) pe_int) pe_int) (pv 5)) pe_int) pe_int) (pv 1))))))))))), ?_⟩
  obtain ⟨p, q, ns, n, limit, rfl, hne, hp, hq, ⟨d1, d2, d3, d4⟩, hQ⟩ := draw_enter h
  have hat : ((n + 1) % (ns.length : Int)).toNat < ns.length := by
    have a1 := Int.emod_nonneg (n + 1) (show (ns.length : Int) ≠ 0 by omega)
    have a2 := Int.emod_lt_of_pos (n + 1) (show (0 : Int) < ns.length by omega)
    omega
  have hat0 := Int.emod_nonneg (n + 1) (show (ns.length : Int) ≠ 0 by omega)
  have hcell : atI (ns.map V.int) ((n + 1) % (ns.length : Int)) = some (.int (ns.getD ((n + 1) % (ns.length : Int)).toNat 0)) := by
    generalize hz : (n + 1) % (ns.length : Int) = z at hat hat0
    obtain ⟨m, rfl⟩ : ∃ m : Nat, z = (m : Int) := ⟨z.toNat, by omega⟩
    refine atI_nat ?_
    have hm : m < ns.length := by simpa using hat
    rw [List.getElem?_map, List.getD_eq_getElem?_getD, Int.toNat_natCast, List.getElem?_eq_getElem hm]; rfl
  have hix : ixN (ns.map V.int).length ((n + 1) % (ns.length : Int)) = some ((n + 1) % (ns.length : Int)).toNat := by
    unfold ixN
    rw [if_pos hat0, if_pos (by rw [List.length_map]; omega)]
  have hp1 : upd H p (.lst [.ref q, .int (n + 1)]) p = some (.lst [.ref q, .int (n + 1)]) := upd_same
  have hq1 : upd H p (.lst [.ref q, .int (n + 1)]) q = some (.lst (ns.map V.int)) := by rw [upd_ne hne]; exact hq
  refine ⟨_, rfl, p, _, 0, _, rfl, rfl, SqL.of hp, rfl, ?_⟩
  refine ⟨_, rfl, p, _, 1, _, rfl, rfl, SqL.of hp, rfl, _, _, rfl, rfl, _, rfl, p, _, 1, 1, rfl, rfl, hp, rfl, ?_⟩
  refine ⟨_, rfl, p, _, 1, _, rfl, rfl, SqL.of hp1, rfl, _, rfl, _, ns.length, rfl, .inl ⟨_, SqL.of hq1, by simp⟩, _, _, rfl, rfl, (by show (0 : Int) < ns.length; omega), ?_⟩
  refine ⟨_, rfl, _, rfl, q, _, _, _, rfl, rfl, SqL.of hq1, hcell, ?_⟩
  refine ⟨_, rfl, _, _, rfl, rfl, _, rfl, ?_⟩
  unfold drawV drawN at hQ
  dsimp only at hQ
  generalize ns.getD ((n + 1) % (ns.length : Int)).toNat 0 = cell at hQ ⊢
  by_cases hb : 1000000000000000000 ≤ cell
  · rw [if_pos hb, if_pos hb, List.map_set] at hQ
    refine if_true_of (decide_eq_true hb) ?_
    exact ⟨_, rfl, _, rfl, _, _, rfl, rfl, ⟨d3, by omega⟩, _, rfl, _, rfl, q, _, _, _, rfl, rfl, hq1, hix, _, rfl, _, rfl, _, _, rfl, rfl, d3, hQ⟩
  · rw [if_neg hb, if_neg hb] at hQ
    refine if_false_of (decide_eq_false hb) ?_
    have he : upd (upd H p (.lst [.ref q, .int (n + 1)])) q (.lst (ns.map V.int)) = upd H p (.lst [.ref q, .int (n + 1)]) := by
      funext a
      by_cases ha : a = q
      · subst ha; rw [upd_same, hq1]
      · rw [upd_ne ha]
    rw [he] at hQ
    have hm0 := Int.emod_nonneg (cell + 104729 * (n + 1)) (show (4294967291 : Int) ≠ 0 by decide)
    have hm1 := Int.emod_lt_of_pos (cell + 104729 * (n + 1)) (show (0 : Int) < 4294967291 by decide)
    refine ⟨_, rfl, _, rfl, p, _, 1, _, rfl, rfl, SqL.of hp1, rfl, _, _, rfl, rfl, .inl ⟨by decide, by decide⟩, _, _, rfl, rfl, _, _, rfl, rfl, (show (0 : Int) < 4294967291 by decide), ?_⟩
    refine ⟨_, rfl, _, _, rfl, rfl, ⟨by decide, by decide, by omega⟩, _, _, rfl, rfl, (show (0 : Int) < 4294967279 by decide), ?_⟩
    refine ⟨_, rfl, _, _, rfl, rfl, ⟨by decide, by decide⟩, _, _, rfl, rfl, .inr ⟨by decide, by decide⟩, _, rfl, _, _, rfl, rfl, _, _, rfl, rfl, (show (0 : Int) < 4294967231 by decide), _, _, rfl, rfl, ⟨by decide, by decide⟩, _, rfl, _, _, rfl, rfl, d3, hQ⟩
abbrev s_L_start : Stmt := top 57
theorem sc_L_start : FnScope ["script"] ["script"] (defScope s_L_start) := ⟨rfl, rfl, rfl, by decide +kernel, rfl, by decide +kernel, by decide +kernel⟩
theorem ok_L_start (T : Txt K mg) :
    ∃ fd, FnOk P w K mg base (L2.CX P w) 1 (He.ga K "_law_start") fd ["script"] (spStart K) ∧ Binds K fd ["script"] [] ∧ PySem.W.keepIn K (.ref (He.ga K "_law_start")) = true ∧ mg "_law_start" = some (.ref (He.ga K "_law_start")) := by
  obtain ⟨fd, F⟩ := T.d_L_start
  have hl := T.b_list
  have hg := T.g_L_start
  refine ⟨fd, F.ok sc_L_start (fun vs H Q E h => ?_) (fun cdv A outer s H vs Q E hr h => ?_), F.bindsN (fun _ _ _ _ _ _ us hl => match us, hl with | [_], _ => rfl), F.kp, hg⟩
  · obtain ⟨a, ns, rfl, _⟩ := h; rfl
  refine ⟨_, PSs.nox (pss_one (ps_ret (pe_lst (pa_cons (pe_ifExp (pt_cmpR (op_neD hr.units) (pv 0) (pe_lst pa_nil) (nomark _)) (pe_callTy call_list_of (by rfl) hl (by decide +kernel) (pa_cons (pv 0) pa_nil)) (pe_lst (pa_cons pe_int pa_nil))) (pa_cons pe_int pa_nil))))), ?_⟩
  obtain ⟨a, ns, rfl, hs, hn, hQ⟩ := h
  refine ⟨_, rfl, by decide, fun e he => ⟨.list (ns.map PyData.int), .list [], .lst (a := a) (xs := ns.map V.int) ((Same.upd he).seq hs) (dp_ints ns), .lst (SqL.of upd_same) .nil, shaped_ints ns, by decide, _, rfl, ?_⟩⟩
  rw [eqv_nil]
  have he1 : Same H (upd H e (.lst [])) := Same.upd he
  by_cases hn0 : ns = []
  · subst hn0
    refine if_false_of (by rfl) ⟨by decide, fun q hq => ⟨show 2 ≤ sizeLine by decide, fun p hp => ?_⟩⟩
    have hpq : q ≠ p := fun z => by rw [z, upd_same] at hp; cases hp
    rw [upd_ne (Ne.symm hpq)] at hp
    exact hQ _ p q he1 hp hq hpq
  · refine if_true_of (by rw [decide_eq_false hn0]; rfl) ⟨_, rfl, a, ns.map V.int, rfl, .inl (he1.seq hs), fun q hq => ⟨show 2 ≤ sizeLine by decide, fun p hp => ?_⟩⟩
    have hpq : q ≠ p := fun z => by rw [z, upd_same] at hp; cases hp
    rw [upd_ne (Ne.symm hpq)] at hp
    have := hQ _ p q he1 hp hq hpq
    unfold startL at this
    rw [if_neg hn0] at this
    exact this
abbrev s_M_init : Stmt := met 0
theorem sc_M_init : FnScope ["self"] ["self"] (defScope s_M_init) := ⟨rfl, rfl, rfl, by decide +kernel, rfl, by decide +kernel, by decide +kernel⟩
theorem ok_M_init (T : Txt K mg) : InitOk P w K mg base := init_ok (st := s_M_init) T.d_M_init T.mM T.mkr sc_M_init (fun _ _ _ _ _ _ us hl => match us, hl with | [_], _ => rfl) rfl (fun _ _ _ => by first | exact Or.inl rfl | exact Or.inr rfl | rfl)
abbrev s_L_pick : Stmt := top 59
theorem sc_L_pick : FnScope ["draws", "choices"] ["draws", "choices"] (defScope s_L_pick) := ⟨rfl, rfl, rfl, by decide +kernel, rfl, by decide +kernel, by decide +kernel⟩
theorem ok_L_pick (T : Txt K mg) : Fok P w K mg base (CK K) 2 "_law_pick" ["draws", "choices"] g_L_pick := by
  exact fokP (f := m_L_pick) (lv := 1) T.d_L_pick T.g_L_pick sc_L_pick rfl (fun _ _ _ _ _ _ us hl => match us, hl with | [_, _], _ => rfl) (fun cdv A outer s H E hr => by
    exact ss_one (ss_ret (se_ix rfl (sv 1) (scio (ok_L_draw T) hr (by decide) rfl rfl passS (sa_cons (sv 0) (sa_last (se_sto (se_callB (call_len' rfl) cS_len rfl T.b_len (by decide +kernel) (sa_last (sv 1))))))))))
abbrev s_M_undo : Stmt := met 6
theorem sc_M_undo : FnScope ["self"] ["self"] (defScope s_M_undo) := ⟨rfl, rfl, rfl, by decide +kernel, rfl, by decide +kernel, by decide +kernel⟩
def m_M_undo : M Fl := sSeq (sIf (tst (pastNil 0)) (sRaise 4) (sNx)) (sSeq (popM 0) (sRet (callD dList (aLast (nowM 0)))))
def g_M_undo : En → Rs R := fnX m_M_undo 0
theorem ok_M_undo (T : Txt K mg) : FokM P w K mg base 1 "undo" ["self"] g_M_undo := by
  exact fokXm (f := m_M_undo) (lv := 0) T.d_M_undo T.mt_undo sc_M_undo rfl (fun _ _ _ _ _ _ us hl => match us, hl with | [_], _ => rfl) (fun cdv A outer s H E hr tk hpo => by
    exact ss_cons (ss_if (st_pastNil T.mM (op_eqA hr.units) (pv 0)) (ss_one (ss_raise rfl tk T.x_4 rfl rfl rfl)) (ss_nil)) (ss_cons (ss_pop T.mM (pv 0) (pv 0)) (ss_one (ss_ret (se_callTy (call_list' rfl) cS_list rfl T.b_list (by decide +kernel) (sa_last (se_now T.mM (pv 0))))))))
abbrev s_L_error : Stmt := top 60
theorem sc_L_error : FnScope ["caught", "kinds"] ["caught"] (defScope s_L_error) := ⟨rfl, rfl, rfl, by decide +kernel, rfl, by decide +kernel, by decide +kernel⟩
theorem ok_L_error (T : Txt K mg) : Fok P w K mg base (CK K) 1 "_law_error" ["caught"] g_L_error := by
  exact fokP (f := m_L_error) (lv := 0) T.d_L_error T.g_L_error sc_L_error rfl (fun _ _ _ _ _ _ us hl => match us, hl with | [_], _ => rfl) (fun cdv A outer s H E hr => by
    exact ss_cons (ss_set (i := 1) sc_L_error.nd rfl (Or.inl rfl) (se_sto (se_lst (sa_cons (se_sto (se_isX rfl rfl T.b_isinstance rfl T.x_0.g (pv 0) T.xc (T.xk 0 (by decide)))) (sa_cons (se_sto (se_isX rfl rfl T.b_isinstance rfl T.x_1.g (pv 0) T.xc (T.xk 1 (by decide)))) (sa_last (se_sto (se_isX rfl rfl T.b_isinstance rfl T.x_2.g (pv 0) T.xc (T.xk 2 (by decide)))))))))) (ss_cons (ss_set (i := 1) sc_L_error.nd rfl (Or.inl rfl) (se_sto (se_op op_addA oS_add (sv 1) (se_lst (sa_cons (se_sto (se_isX rfl rfl T.b_isinstance rfl T.x_3.g (pv 0) T.xc (T.xk 3 (by decide)))) (sa_last (se_sto (se_isX rfl rfl T.b_isinstance rfl T.x_4.g (pv 0) T.xc (T.xk 4 (by decide)))))))))) (ss_cons (ss_if (PW.pt (sw_or (st_cmp (op_neA hr.units) oS_ne (se_countB rfl hr.u65 (sv 1) (se_bl)) (se_int) (nomark _)) (sw_or (st_not (st_val (se_isX rfl rfl T.b_isinstance rfl T.xr (pv 0) T.xc T.xkr))) (sw_or1 (st_not (st_val (se_isXb rfl rfl T.b_isinstance rfl T.b_ValueError (by decide +kernel) (pv 0) T.xc T.xv))))))) (ss_one (ss_ret (se_str))) (ss_nil)) (ss_one (ss_ret (se_ix rfl (se_lst (sa_cons (se_sto (se_str)) (sa_cons (se_sto (se_str)) (sa_cons (se_sto (se_str)) (sa_cons (se_sto (se_str)) (sa_last (se_sto (se_str)))))))) (se_indexB rfl (sv 1) (se_bl))))))))
abbrev s_M_marked : Stmt := met 3
theorem sc_M_marked : FnScope ["self"] ["self"] (defScope s_M_marked) := ⟨rfl, rfl, rfl, by decide +kernel, rfl, by decide +kernel, by decide +kernel⟩
def m_M_marked : M Fl := sRet (callD dList (aLast (nowM 0)))
def g_M_marked : En → Rs R := fnP m_M_marked 0
theorem ok_M_marked (T : Txt K mg) : FokM P w K mg base 1 "marked" ["self"] g_M_marked := by
  exact fokPm (f := m_M_marked) (lv := 0) T.d_M_marked T.mt_marked sc_M_marked rfl (fun _ _ _ _ _ _ us hl => match us, hl with | [_], _ => rfl) (fun cdv A outer s H E hr => by
    exact ss_one (ss_ret (se_callTy (call_list' rfl) cS_list rfl T.b_list (by decide +kernel) (sa_last (se_now T.mM (pv 0))))))
abbrev s_is_int : Stmt := top 8
theorem sc_is_int : FnScope ["value", "low", "high"] ["value", "low", "high"] (defScope s_is_int) := ⟨rfl, rfl, rfl, by decide +kernel, rfl, by decide +kernel, by decide +kernel⟩
theorem ok_is_int (T : Txt K mg) : Fok P w K mg base (CK K) 1 "is_int" ["value", "low", "high"] g_is_int := by
  exact fokP (f := m_is_int) (lv := 0) T.d_is_int T.g_is_int sc_is_int rfl (fun _ _ _ _ _ _ us hl => match us, hl with | [_, _, _], _ => rfl) (fun cdv A outer s H E hr => by
    exact ss_one (ss_ret (se_and (se_isi rfl rfl T.b_isinstance rfl T.b_int (by decide +kernel) (sv 0)) (se_and (se_not (se_isi rfl rfl T.b_isinstance rfl T.b_bool (by decide +kernel) (sv 0))) (se_one (se_chain op_le op_le oS_le oS_le (sv 1) (sv 0) (sv 2)))))))
abbrev s_is_item : Stmt := top 11
theorem sc_is_item : FnScope ["value", "first", "last", "step", "one"] ["value"] (defScope s_is_item) := ⟨rfl, rfl, rfl, by decide +kernel, rfl, by decide +kernel, by decide +kernel⟩
theorem ok_is_item (T : Txt K mg) : Fok P w K mg base (CK K) 2 "is_item" ["value"] g_is_item := by
  obtain ⟨_, hMOST⟩ := T.c_MOST; exact fokP (f := m_is_item) (lv := 1) T.d_is_item T.g_is_item sc_is_item rfl (fun _ _ _ _ _ _ us hl => match us, hl with | [_], _ => rfl) (fun cdv A outer s H E hr => by
    exact ss_cons (ss_if (PW.pt (sw_or (st_not (st_val (se_isi rfl rfl T.b_isinstance rfl T.b_tuple (by decide +kernel) (sv 0)))) (sw_or (st_cmp (op_neA hr.units) oS_ne (se_callB (call_len' rfl) cS_len rfl T.b_len (by decide +kernel) (sa_last (sv 0))) (se_int) (nomark _)) (sw_or1 (st_not (st_val (se_callB (cr_all' rfl rfl) cS_all rfl T.b_all (by decide +kernel) (sa_last (se_lc (own := [("one", 4)]) (g := gName 4) rfl rfl sc_is_item.nd (si_seq rfl (sv 0)) (blkOk_by (by kernel_rfl)) (fun _ _ _ _ _ => pg_name (i := 4) sc_is_item.nd rfl (Or.inl rfl)) (tg_name) (fun _ _ _ _ _ => sts_nil) (fun _ _ _ _ _ => sc (ok_is_int T) hr (by decide) rfl rfl passS (sa_cons (se_sto (sv 4)) (sa_cons (se_sto (se_int)) (sa_last (se_sto (se_gInt rfl hMOST))))))))))))))) (ss_one (ss_ret (se_bl))) (ss_nil)) (ss_cons (ss_unp (sv 0) (g_tup (k := ⟨K, CK K⟩) rfl rfl (gsN_cons (pg_name (i := 1) sc_is_item.nd rfl (by first | exact Or.inl rfl | exact Or.inr rfl)) (gsN_cons (pg_name (i := 2) sc_is_item.nd rfl (by first | exact Or.inl rfl | exact Or.inr rfl)) (gsN_cons (pg_name (i := 3) sc_is_item.nd rfl (by first | exact Or.inl rfl | exact Or.inr rfl)) (gsN_nil))))) (tg_tup rfl)) (ss_cons (ss_if (st_cmp (op_eqA hr.units) oS_eq (sv 1) (sv 2) (nomark _)) (ss_one (ss_ret (se_cmp (op_eqA hr.units) oS_eq (sv 3) (se_int) (nomark _)))) (ss_nil)) (ss_one (ss_ret (se_and (se_cmp op_lt oS_lt (sv 1) (sv 2) (nomark _)) (se_one (se_cmp (op_eqA hr.units) oS_eq (se_op op_mod oS_mod (se_op op_sub oS_sub (sv 2) (sv 1)) (sv 3)) (se_int) (nomark _)))))))))
abbrev s_check_item : Stmt := top 12
theorem sc_check_item : FnScope ["value"] ["value"] (defScope s_check_item) := ⟨rfl, rfl, rfl, by decide +kernel, rfl, by decide +kernel, by decide +kernel⟩
theorem ok_check_item (T : Txt K mg) : Fok P w K mg base (CK K) 3 "check_item" ["value"] g_check_item := by
  exact fokX (f := m_check_item) (lv := 2) T.d_check_item T.g_check_item sc_check_item rfl (fun _ _ _ _ _ _ us hl => match us, hl with | [_], _ => rfl) (fun cdv A outer s H E hr tk hpo => by
    exact ss_one (ss_if (st_not (st_val (sc (ok_is_item T) hr (by decide) rfl rfl (fun σ => passAt tk σ) (sa_last (se_sto (sv 0)))))) (ss_one (ss_raise rfl tk T.x_1 rfl rfl rfl)) (ss_nil)))
abbrev s_numbers_of : Stmt := top 15
theorem sc_numbers_of : FnScope ["item"] ["item"] (defScope s_numbers_of) := ⟨rfl, rfl, rfl, by decide +kernel, rfl, by decide +kernel, by decide +kernel⟩
theorem ok_numbers_of (T : Txt K mg) : Fok P w K mg base (CK K) 1 "numbers_of" ["item"] g_numbers_of := by
  exact fokP (f := m_numbers_of) (lv := 0) T.d_numbers_of T.g_numbers_of sc_numbers_of rfl (fun _ _ _ _ _ _ us hl => match us, hl with | [_], _ => rfl) (fun cdv A outer s H E hr => by
    exact ss_one (ss_ret (se_lrg3 rfl rfl T.b_list rfl T.b_range (sa_cons (se_ix rfl (sv 0) (se_int)) (sa_cons (se_op op_addA oS_add (se_ix rfl (sv 0) (se_int)) (se_int)) (sa_last (se_ix rfl (sv 0) (se_int))))))))
abbrev s_M_clear : Stmt := met 2
theorem sc_M_clear : FnScope ["self", "item", "own", "gone", "number"] ["self", "item"] (defScope s_M_clear) := ⟨rfl, rfl, rfl, by decide +kernel, rfl, by decide +kernel, by decide +kernel⟩
def m_M_clear : M Fl := sSeq (sDrop (callV 1 g_check_item (aLast (sto (eVar 1))))) (sSeq (sAsg 2 (sto (callV 1 g_numbers_of (aLast (sto (eVar 1)))))) (sSeq (sAsg 3 (sto (lcM (iSq (nowM 0)) (tgN 4) (tst (bin dIn (eVar 4) (eVar 2))) (eVar 4) [4]))) (sSeq (sDrop (pushM 0)) (sSeq (setNow 0 (lcM (iSq (nowM 0)) (tgN 4) (tst (bin dNotIn (eVar 4) (eVar 2))) (eVar 4) [4])) (sRet (callD dLen (aLast (eVar 3))))))))
def g_M_clear : En → Rs R := fnX m_M_clear 3
theorem ok_M_clear (T : Txt K mg) : FokM P w K mg base 4 "clear" ["self", "item"] g_M_clear := by
  exact fokXm (f := m_M_clear) (lv := 3) T.d_M_clear T.mt_clear sc_M_clear rfl (fun _ _ _ _ _ _ us hl => match us, hl with | [_, _], _ => rfl) (fun cdv A outer s H E hr tk hpo => by
    exact ss_cons (ss_drop (sc (ok_check_item T) hr (by decide) rfl rfl (fun σ => passAt tk σ) (sa_last (se_sto (sv 1))))) (ss_cons (ss_set (i := 2) sc_M_clear.nd rfl (Or.inr rfl) (se_sto (sc (ok_numbers_of T) hr (by decide) rfl rfl (fun σ => passAt tk σ) (sa_last (se_sto (sv 1)))))) (ss_cons (ss_frz (ss_setLc (i := 3) (own := [("number", 4)]) (g := gName 4) rfl rfl sc_M_clear.nd rfl rfl (sw_true rfl rfl rfl (by decide +kernel)) (si_seq rfl (se_now T.mM (pv 0))) (blkOk_by (by kernel_rfl)) (fun _ _ _ _ _ => pg_name (i := 4) sc_M_clear.nd rfl (Or.inl rfl)) (tg_name) (fun _ _ _ _ _ => sts_one (st_cmp (op_inA hr.u65) oS_in (sv 4) (sv 2) (by rfl))) (fun _ _ _ _ _ => sv 4))) (ss_cons (ss_drop (se_push T.mM (pv 0) (pv 0))) (ss_cons (ss_now T.mM (pv 0) (se_lc (own := [("number", 4)]) (g := gName 4) rfl rfl sc_M_clear.nd (si_seq rfl (se_now T.mM (pv 0))) (blkOk_by (by kernel_rfl)) (fun _ _ _ _ _ => pg_name (i := 4) sc_M_clear.nd rfl (Or.inl rfl)) (tg_name) (fun _ _ _ _ _ => sts_one (st_cmp (op_notinA hr.u65) oS_notin (sv 4) (sv 2) (by rfl))) (fun _ _ _ _ _ => sv 4))) (ss_one (ss_ret (se_callB (call_len' rfl) cS_len rfl T.b_len (by decide +kernel) (sa_last (sv 3))))))))))
abbrev s_M_mark : Stmt := met 1
theorem sc_M_mark : FnScope ["self", "item", "fresh", "number"] ["self", "item"] (defScope s_M_mark) := ⟨rfl, rfl, rfl, by decide +kernel, rfl, by decide +kernel, by decide +kernel⟩
def m_M_mark : M Fl := sSeq (sDrop (callV 1 g_check_item (aLast (sto (eVar 1))))) (sSeq (sAsg 2 (sto (lcM (iSq (callV 1 g_numbers_of (aLast (sto (eVar 1))))) (tgN 3) (tst (bin dNotIn (eVar 3) (nowM 0))) (eVar 3) [3]))) (sSeq (sDrop (pushM 0)) (sSeq (setNow 0 (callD dSorted (aLast (bin dAdd (nowM 0) (eVar 2))))) (sRet (callD dLen (aLast (eVar 2)))))))
def g_M_mark : En → Rs R := fnX m_M_mark 2
theorem ok_M_mark (T : Txt K mg) : FokM P w K mg base 4 "mark" ["self", "item"] g_M_mark := by
  exact fokXm (f := m_M_mark) (lv := 3) T.d_M_mark T.mt_mark sc_M_mark rfl (fun _ _ _ _ _ _ us hl => match us, hl with | [_, _], _ => rfl) (fun cdv A outer s H E hr tk hpo => by
    exact ss_cons (ss_drop (sc (ok_check_item T) hr (by decide) rfl rfl (fun σ => passAt tk σ) (sa_last (se_sto (sv 1))))) (ss_cons (ss_frz (ss_setLc (i := 2) (own := [("number", 3)]) (g := gName 3) rfl rfl sc_M_mark.nd rfl rfl (sw_true rfl rfl rfl (by decide +kernel)) (si_seq rfl (sc (ok_numbers_of T) hr (by decide) rfl rfl (fun σ => passAt tk σ) (sa_last (se_sto (sv 1))))) (blkOk_by (by kernel_rfl)) (fun _ _ _ _ _ => pg_name (i := 3) sc_M_mark.nd rfl (Or.inl rfl)) (tg_name) (fun _ _ _ _ _ => sts_one (st_cmp (op_notinA hr.u65) oS_notin (sv 3) (se_now T.mM (pv 0)) (by rfl))) (fun _ _ _ _ _ => sv 3))) (ss_cons (ss_drop (se_push T.mM (pv 0) (pv 0))) (ss_cons (ss_now T.mM (pv 0) (se_callB (cr_sorted' rfl hr.u70) cS_sorted rfl T.b_sorted (by decide +kernel) (sa_last (se_op op_addA oS_add (se_now T.mM (pv 0)) (sv 2))))) (ss_one (ss_ret (se_callB (call_len' rfl) cS_len rfl T.b_len (by decide +kernel) (sa_last (sv 2)))))))))
abbrev s_M_len : Stmt := met 7
theorem sc_M_len : FnScope ["self"] ["self"] (defScope s_M_len) := ⟨rfl, rfl, rfl, by decide +kernel, rfl, by decide +kernel, by decide +kernel⟩
def m_M_len : M Fl := sRet (callD dLen (aLast (nowM 0)))
def g_M_len : En → Rs R := fnP m_M_len 0
theorem ok_M_len (T : Txt K mg) : FokM P w K mg base 1 "__len__" ["self"] g_M_len := by
  exact fokPm (f := m_M_len) (lv := 0) T.d_M_len T.mt_len sc_M_len rfl (fun _ _ _ _ _ _ us hl => match us, hl with | [_], _ => rfl) (fun cdv A outer s H E hr => by
    exact ss_one (ss_ret (se_callB (call_len' rfl) cS_len rfl T.b_len (by decide +kernel) (sa_last (se_now T.mM (pv 0))))))
abbrev s_text_of : Stmt := top 17
theorem sc_text_of : FnScope ["item", "first", "last", "step"] ["item"] (defScope s_text_of) := ⟨rfl, rfl, rfl, by decide +kernel, rfl, by decide +kernel, by decide +kernel⟩
theorem ok_text_of (T : Txt K mg) : Fok P w K mg base (CK K) 1 "text_of" ["item"] g_text_of := by
  exact fokP (f := m_text_of) (lv := 0) T.d_text_of T.g_text_of sc_text_of rfl (fun _ _ _ _ _ _ us hl => match us, hl with | [_], _ => rfl) (fun cdv A outer s H E hr => by
    exact ss_cons (ss_unp (sv 0) (g_tup (k := ⟨K, CK K⟩) rfl rfl (gsN_cons (pg_name (i := 1) sc_text_of.nd rfl (by first | exact Or.inl rfl | exact Or.inr rfl)) (gsN_cons (pg_name (i := 2) sc_text_of.nd rfl (by first | exact Or.inl rfl | exact Or.inr rfl)) (gsN_cons (pg_name (i := 3) sc_text_of.nd rfl (by first | exact Or.inl rfl | exact Or.inr rfl)) (gsN_nil))))) (tg_tup rfl)) (ss_cons (ss_if (st_cmp (op_eqA hr.units) oS_eq (sv 1) (sv 2) (nomark _)) (ss_one (ss_ret (se_callTy call_str_int cS_str rfl T.b_str (by decide +kernel) (sa_last (sv 1))))) (ss_nil)) (ss_one (ss_ret (se_if (st_cmp (op_eqA hr.units) oS_eq (sv 3) (se_int) (nomark _)) (se_joined (sj_cons (se_fmt (sv 1)) (sj_cons (se_str) (sj_cons (se_fmt (sv 2)) (sj_nil))))) (se_joined (sj_cons (se_fmt (sv 1)) (sj_cons (se_str) (sj_cons (se_fmt (sv 2)) (sj_cons (se_str) (sj_cons (se_fmt (sv 3)) (sj_nil))))))))))))
abbrev s_runs_of : Stmt := top 35
theorem sc_runs_of : FnScope ["some", "found", "one"] ["some"] (defScope s_runs_of) := ⟨rfl, rfl, rfl, by decide +kernel, rfl, by decide +kernel, by decide +kernel⟩
theorem ok_runs_of (T : Txt K mg) : Fok P w K mg base (CK K) 1 "runs_of" ["some"] g_runs_of := by
  exact fokP (f := m_runs_of) (lv := 0) T.d_runs_of T.g_runs_of sc_runs_of rfl (fun _ _ _ _ _ _ us hl => match us, hl with | [_], _ => rfl) (fun cdv A outer s H E hr => by
    exact ss_cons (ss_set (i := 1) sc_runs_of.nd rfl (Or.inl rfl) (se_lst (sa_nil))) (ss_cons (ss_for (g := gName 2) PassesOwn.never rfl (si_seq rfl (sv 0)) (pg_name (i := 2) sc_runs_of.nd rfl (by first | exact Or.inl rfl | exact Or.inr rfl)) (tg_name) (ss_one (ss_if (PW.pt (sw_and (st_cmp (op_neA hr.units) oS_ne (sv 1) (se_lst (sa_nil)) (nomark _)) (sw_and1 (st_cmp (op_eqA hr.units) oS_eq (se_ix rfl (se_ix rfl (sv 1) (se_neg (se_int))) (se_int)) (se_op op_sub oS_sub (sv 2) (se_int)) (nomark _))))) (ss_one (ss_setL (pv 1) (se_neg (se_int)) (se_tup (sa_cons (se_sto (se_ix rfl (se_ix rfl (sv 1) (se_neg (se_int))) (se_int))) (sa_cons (se_sto (sv 2)) (sa_last (se_sto (se_int)))))))) (ss_one (ss_drop (se_append rfl (pv 1) (se_tup (sa_cons (se_sto (sv 2)) (sa_cons (se_sto (sv 2)) (sa_last (se_sto (se_int)))))))))))) (ss_one (ss_ret (sv 1)))))
abbrev s_plain_of : Stmt := top 36
theorem sc_plain_of : FnScope ["some", "item"] ["some"] (defScope s_plain_of) := ⟨rfl, rfl, rfl, by decide +kernel, rfl, by decide +kernel, by decide +kernel⟩
theorem ok_plain_of (T : Txt K mg) : Fok P w K mg base (CK K) 2 "plain_of" ["some"] g_plain_of := by
  exact fokP (f := m_plain_of) (lv := 1) T.d_plain_of T.g_plain_of sc_plain_of rfl (fun _ _ _ _ _ _ us hl => match us, hl with | [_], _ => rfl) (fun cdv A outer s H E hr => by
    exact ss_one (ss_ret (se_join rfl (se_str) (se_lc (own := [("item", 1)]) (g := gName 1) rfl rfl sc_plain_of.nd (si_seq rfl (sc (ok_runs_of T) hr (by decide) rfl rfl passS (sa_last (se_sto (sv 0))))) (blkOk_by (by kernel_rfl)) (fun _ _ _ _ _ => pg_name (i := 1) sc_plain_of.nd rfl (Or.inl rfl)) (tg_name) (fun _ _ _ _ _ => sts_nil) (fun _ _ _ _ _ => sc (ok_text_of T) hr (by decide) rfl rfl passS (sa_last (se_sto (sv 1))))))))
abbrev s_M_text : Stmt := met 4
theorem sc_M_text : FnScope ["self"] ["self"] (defScope s_M_text) := ⟨rfl, rfl, rfl, by decide +kernel, rfl, by decide +kernel, by decide +kernel⟩
def m_M_text : M Fl := sRet (callV 1 g_plain_of (aLast (sto (nowM 0))))
def g_M_text : En → Rs R := fnP m_M_text 0
theorem ok_M_text (T : Txt K mg) : FokM P w K mg base 3 "text" ["self"] g_M_text := by
  exact fokPm (f := m_M_text) (lv := 2) T.d_M_text T.mt_text sc_M_text rfl (fun _ _ _ _ _ _ us hl => match us, hl with | [_], _ => rfl) (fun cdv A outer s H E hr => by
    exact ss_one (ss_ret (sc (ok_plain_of T) hr (by decide) rfl rfl passS (sa_last (se_sto (se_now T.mM (pv 0)))))))
abbrev s_least_from : Stmt := top 41
theorem sc_least_from : FnScope ["left", "every", "known", "best", "item", "own", "length", "rest", "whole", "one"] ["left", "every", "known"] (defScope s_least_from) := ⟨rfl, rfl, rfl, by decide +kernel, rfl, by decide +kernel, by decide +kernel⟩
theorem ok_least_from (T : Txt K mg) : ∀ n, Fok P w K mg base (CK K) (0 + n) "least_from" ["left", "every", "known"] (g_least_from n)
  | 0 => (fok0 (st := s_least_from) T.d_least_from T.g_least_from (fun _ _ _ _ _ _ us hl => match us, hl with | [_, _, _], _ => rfl)).mono (by omega)
  | n + 1 => by
    have IH := ok_least_from T n
    exact fokP (f := m_least_from (g_least_from n)) T.d_least_from T.g_least_from sc_least_from rfl (fun _ _ _ _ _ _ us hl => match us, hl with | [_, _, _], _ => rfl) (fun cdv A outer s H E hr => by
      have hl : 0 + n ≤ 0 + n := Nat.le_refl _
      exact ss_cons (ss_if (st_cmp (op_eqA hr.units) oS_eq (sv 0) (se_tup (sa_nil)) (nomark _)) (ss_one (ss_ret (se_int))) (ss_nil)) (ss_cons (ss_if (st_dnin hr.u1 (sv 0) (pv 2)) (ss_cons (ss_set (i := 3) sc_least_from.nd rfl (Or.inl rfl) (se_non)) (ss_cons (ss_for (g := gTup K 3 (gNs [4, 5, 6])) PassesOwn.never rfl (si_seq rfl (sv 1)) (g_tup (k := ⟨K, CK K⟩) rfl rfl (gsN_cons (pg_name (i := 4) sc_least_from.nd rfl (by first | exact Or.inl rfl | exact Or.inr rfl)) (gsN_cons (pg_name (i := 5) sc_least_from.nd rfl (by first | exact Or.inl rfl | exact Or.inr rfl)) (gsN_cons (pg_name (i := 6) sc_least_from.nd rfl (by first | exact Or.inl rfl | exact Or.inr rfl)) (gsN_nil))))) (tg_tup rfl) (ss_one (ss_if (st_cmp (op_inA hr.u65) oS_in (se_ix rfl (sv 0) (se_int)) (sv 5) (by rfl)) (ss_cons (ss_set (i := 7) sc_least_from.nd rfl (Or.inl rfl) (se_sto (se_callTy (call_tuple' rfl) cS_tuple rfl T.b_tuple (by decide +kernel) (sa_last (se_lc (own := [("one", 9)]) (g := gName 9) rfl rfl sc_least_from.nd (si_seq rfl (sv 0)) (blkOk_by (by kernel_rfl)) (fun _ _ _ _ _ => pg_name (i := 9) sc_least_from.nd rfl (Or.inl rfl)) (tg_name) (fun _ _ _ _ _ => sts_one (st_cmp (op_notinA hr.u65) oS_notin (sv 9) (sv 5) (by rfl))) (fun _ _ _ _ _ => sv 9)))))) (ss_cons (ss_set (i := 8) sc_least_from.nd rfl (Or.inl rfl) (se_sto (se_op op_addA oS_add (sv 6) (scio IH hr (Nat.le_refl _) rfl rfl passS (sa_cons (se_sto (sv 7)) (sa_cons (se_sto (sv 1)) (sa_last (sv 2)))))))) (ss_one (ss_set (i := 3) sc_least_from.nd rfl (Or.inl rfl) (se_sto (se_if (PW.pt (sw_or (st_cmp op_isA oS_is (sv 3) (se_non) (nomark _)) (sw_or1 (st_cmp op_lt oS_lt (sv 8) (sv 3) (nomark _))))) (sv 8) (sv 3))))))) (ss_nil)))) (ss_one (ss_dput hr.u1 (pv 2) (sv 0) (sv 3))))) (ss_nil)) (ss_one (ss_ret (se_dget hr.u1 (pv 2) (sv 0))))))
abbrev s_covers_fromT : Stmt := top 43
theorem sc_covers_fromT : FnScope ["left", "every", "known", "found", "item", "own", "length", "rest", "one", "tail"] ["left", "every", "known"] (defScope s_covers_fromT) := ⟨rfl, rfl, rfl, by decide +kernel, rfl, by decide +kernel, by decide +kernel⟩
theorem ok_covers_fromT (T : Txt K mg) : ∀ n, Fok P w K mg base (CK K) (13 + n) "covers_from" ["left", "every", "known"] (g_covers_fromT n)
  | 0 => (fok0 (st := s_covers_fromT) T.d_covers_fromT T.g_covers_fromT (fun _ _ _ _ _ _ us hl => match us, hl with | [_, _, _], _ => rfl)).mono (by omega)
  | n + 1 => by
    have IH := ok_covers_fromT T n
    exact fokP (f := m_covers_fromT (g_covers_fromT n)) T.d_covers_fromT T.g_covers_fromT sc_covers_fromT rfl (fun _ _ _ _ _ _ us hl => match us, hl with | [_, _, _], _ => rfl) (fun cdv A outer s H E hr => by
      have hl : 13 + n ≤ 13 + n := Nat.le_refl _
      exact ss_cons (ss_if (st_cmp (op_eqA hr.units) oS_eq (sv 0) (se_tup (sa_nil)) (nomark _)) (ss_one (ss_ret (se_lst (sa_last (se_sto (se_tup (sa_nil))))))) (ss_nil)) (ss_cons (ss_set (i := 3) sc_covers_fromT.nd rfl (Or.inl rfl) (se_lst (sa_nil))) (ss_cons (ss_for (g := gTup K 3 (gNs [4, 5, 6])) PassesOwn.never rfl (si_seq rfl (sv 1)) (g_tup (k := ⟨K, CK K⟩) rfl rfl (gsN_cons (pg_name (i := 4) sc_covers_fromT.nd rfl (by first | exact Or.inl rfl | exact Or.inr rfl)) (gsN_cons (pg_name (i := 5) sc_covers_fromT.nd rfl (by first | exact Or.inl rfl | exact Or.inr rfl)) (gsN_cons (pg_name (i := 6) sc_covers_fromT.nd rfl (by first | exact Or.inl rfl | exact Or.inr rfl)) (gsN_nil))))) (tg_tup rfl) (ss_one (ss_if (st_cmp (op_inA hr.u65) oS_in (se_ix rfl (sv 0) (se_int)) (sv 5) (by rfl)) (ss_cons (ss_set (i := 7) sc_covers_fromT.nd rfl (Or.inl rfl) (se_sto (se_callTy (call_tuple' rfl) cS_tuple rfl T.b_tuple (by decide +kernel) (sa_last (se_lc (own := [("one", 8)]) (g := gName 8) rfl rfl sc_covers_fromT.nd (si_seq rfl (sv 0)) (blkOk_by (by kernel_rfl)) (fun _ _ _ _ _ => pg_name (i := 8) sc_covers_fromT.nd rfl (Or.inl rfl)) (tg_name) (fun _ _ _ _ _ => sts_one (st_cmp (op_notinA hr.u65) oS_notin (sv 8) (sv 5) (by rfl))) (fun _ _ _ _ _ => sv 8)))))) (ss_one (ss_if (st_cmp (op_eqA hr.units) oS_eq (se_op op_addA oS_add (sv 6) (scio (ok_least_from T 12) hr (by first | omega | (simp only [Nat.add_eq]; omega)) rfl rfl passS (sa_cons (se_sto (sv 7)) (sa_cons (se_sto (sv 1)) (sa_last (sv 2)))))) (scio (ok_least_from T 12) hr (by first | omega | (simp only [Nat.add_eq]; omega)) rfl rfl passS (sa_cons (se_sto (sv 0)) (sa_cons (se_sto (sv 1)) (sa_last (sv 2))))) (nomark _)) (ss_one (ss_aug (i := 3) sc_covers_fromT.nd rfl (Or.inl rfl) (se_lc (own := [("tail", 9)]) (g := gName 9) rfl rfl sc_covers_fromT.nd (si_seq rfl (scio IH hr (Nat.le_refl _) rfl rfl passS (sa_cons (se_sto (sv 7)) (sa_cons (se_sto (sv 1)) (sa_last (sv 2)))))) (blkOk_by (by kernel_rfl)) (fun _ _ _ _ _ => pg_name (i := 9) sc_covers_fromT.nd rfl (Or.inl rfl)) (tg_name) (fun _ _ _ _ _ => sts_nil) (fun _ _ _ _ _ => se_callTy (call_tuple' rfl) cS_tuple rfl T.b_tuple (by decide +kernel) (sa_last (se_callB (cr_sortedT' rfl hr.u70) cS_sortedT rfl T.b_sorted (by decide +kernel) (sa_last (se_op op_addA oS_add (se_tup (sa_last (se_sto (sv 4)))) (sv 9))))))))) (ss_nil)))) (ss_nil)))) (ss_one (ss_ret (se_sortSetT rfl rfl hr.u70 rfl T.b_sorted rfl T.b_set (sv 3)))))))
abbrev s_within_of : Stmt := top 22
theorem sc_within_of : FnScope ["numbers_there", "found", "first", "second", "last"] ["numbers_there"] (defScope s_within_of) := ⟨rfl, rfl, rfl, by decide +kernel, rfl, by decide +kernel, by decide +kernel⟩
theorem ok_within_of (T : Txt K mg) : Fok P w K mg base (CK K) 1 "within_of" ["numbers_there"] g_within_of := by
  exact fokP (f := m_within_of) (lv := 0) T.d_within_of T.g_within_of sc_within_of rfl (fun _ _ _ _ _ _ us hl => match us, hl with | [_], _ => rfl) (fun cdv A outer s H E hr => by
    exact ss_cons (ss_set (i := 1) sc_within_of.nd rfl (Or.inl rfl) (se_lst (sa_nil))) (ss_cons (ss_for (g := gName 2) PassesOwn.never rfl (si_seq rfl (sv 0)) (pg_name (i := 2) sc_within_of.nd rfl (by first | exact Or.inl rfl | exact Or.inr rfl)) (tg_name) (ss_cons (ss_drop (se_append rfl (pv 1) (se_tup (sa_cons (se_sto (sv 2)) (sa_cons (se_sto (sv 2)) (sa_last (se_sto (se_int)))))))) (ss_one (ss_for (g := gName 3) PassesOwn.never rfl (si_seq rfl (sv 0)) (pg_name (i := 3) sc_within_of.nd rfl (by first | exact Or.inl rfl | exact Or.inr rfl)) (tg_name) (ss_one (ss_if (st_cmp op_gt oS_gt (sv 3) (sv 2) (nomark _)) (ss_cons (ss_set (i := 4) sc_within_of.nd rfl (Or.inl rfl) (sv 3)) (ss_one (ss_while (n := 40) PassesOwn.never (st_cmp (op_inA hr.u65) oS_in (sv 4) (sv 0) (by rfl)) (ss_cons (ss_drop (se_append rfl (pv 1) (se_tup (sa_cons (se_sto (sv 2)) (sa_cons (se_sto (sv 4)) (sa_last (se_sto (se_op op_sub oS_sub (sv 3) (sv 2))))))))) (ss_one (ss_aug (i := 4) sc_within_of.nd rfl (Or.inl rfl) (se_op op_sub oS_sub (sv 3) (sv 2)))))))) (ss_nil))))))) (ss_one (ss_ret (se_callB (cr_sorted' rfl hr.u70) cS_sorted rfl T.b_sorted (by decide +kernel) (sa_last (sv 1)))))))
abbrev s_weighed : Stmt := top 40
theorem sc_weighed : FnScope ["some", "item"] ["some"] (defScope s_weighed) := ⟨rfl, rfl, rfl, by decide +kernel, rfl, by decide +kernel, by decide +kernel⟩
theorem ok_weighed (T : Txt K mg) : Fok P w K mg base (CK K) 2 "weighed" ["some"] g_weighed := by
  exact fokP (f := m_weighed) (lv := 1) T.d_weighed T.g_weighed sc_weighed rfl (fun _ _ _ _ _ _ us hl => match us, hl with | [_], _ => rfl) (fun cdv A outer s H E hr => by
    exact ss_one (ss_ret (se_lc (own := [("item", 1)]) (g := gName 1) rfl rfl sc_weighed.nd (si_seq rfl (sc (ok_within_of T) hr (by decide) rfl rfl passS (sa_last (se_sto (sv 0))))) (blkOk_by (by kernel_rfl)) (fun _ _ _ _ _ => pg_name (i := 1) sc_weighed.nd rfl (Or.inl rfl)) (tg_name) (fun _ _ _ _ _ => sts_nil) (fun _ _ _ _ _ => se_tup (sa_cons (se_sto (sv 1)) (sa_cons (se_sto (se_callTy (call_tuple' rfl) cS_tuple rfl T.b_tuple (by decide +kernel) (sa_last (sc (ok_numbers_of T) hr (by decide) rfl rfl passS (sa_last (se_sto (sv 1))))))) (sa_last (se_sto (se_op op_addA oS_add (se_callB (call_len' rfl) cS_len rfl T.b_len (by decide +kernel) (sa_last (sc (ok_text_of T) hr (by decide) rfl rfl passS (sa_last (se_sto (sv 1)))))) (se_int))))))))))
abbrev s_covers_ofT : Stmt := top 44
theorem sc_covers_ofT : FnScope ["some"] ["some"] (defScope s_covers_ofT) := ⟨rfl, rfl, rfl, by decide +kernel, rfl, by decide +kernel, by decide +kernel⟩
theorem ok_covers_ofT (T : Txt K mg) : Fok P w K mg base (CK K) 27 "covers_of" ["some"] g_covers_ofT := by
  exact fokP (f := m_covers_ofT) (lv := 26) T.d_covers_ofT T.g_covers_ofT sc_covers_ofT rfl (fun _ _ _ _ _ _ us hl => match us, hl with | [_], _ => rfl) (fun cdv A outer s H E hr => by
    exact ss_one (ss_ret (scio (ok_covers_fromT T 12) hr (by decide) rfl rfl passS (sa_cons (se_sto (se_callTy (call_tuple' rfl) cS_tuple rfl T.b_tuple (by decide +kernel) (sa_last (sv 0)))) (sa_cons (se_sto (sc (ok_weighed T) hr (by decide) rfl rfl passS (sa_last (se_sto (sv 0))))) (sa_last (se_dnewT)))))))
abbrev s_M_shortT : Stmt := met 5
theorem sc_M_shortT : FnScope ["self", "item"] ["self"] (defScope s_M_shortT) := ⟨rfl, rfl, rfl, by decide +kernel, rfl, by decide +kernel, by decide +kernel⟩
def m_M_shortT : M Fl := sSeq (sIf (tst (bin dEq (nowM 0) (mkLst (aNil)))) (sRet (eC (.str ""))) (sNx)) (sRet (met1 dJoin (eC (.str ",")) (lcM (iSq (bin dIx (callV 1 g_covers_ofT (aLast (sto (nowM 0)))) (eC (.int 0)))) (tgN 1) (M.ret true) (callV 1 g_text_of (aLast (sto (eVar 1)))) [1])))
def g_M_shortT : En → Rs R := fnP m_M_shortT 1
theorem ok_M_shortT (T : Txt K mg) : FokM P w K mg base 28 "short" ["self"] g_M_shortT := by
  exact fokPm (f := m_M_shortT) (lv := 27) T.d_M_shortT T.mt_short sc_M_shortT rfl (fun _ _ _ _ _ _ us hl => match us, hl with | [_], _ => rfl) (fun cdv A outer s H E hr => by
    exact ss_cons (ss_if (st_cmp (op_eqA hr.units) oS_eq (se_now T.mM (pv 0)) (se_lst (sa_nil)) (nomark _)) (ss_one (ss_ret (se_str))) (ss_nil)) (ss_one (ss_ret (se_join rfl (se_str) (se_lc (own := [("item", 1)]) (g := gName 1) rfl rfl sc_M_shortT.nd (si_seq rfl (se_ix rfl (sc (ok_covers_ofT T) hr (by decide) rfl rfl passS (sa_last (se_sto (se_now T.mM (pv 0))))) (se_int))) (blkOk_by (by kernel_rfl)) (fun _ _ _ _ _ => pg_name (i := 1) sc_M_shortT.nd rfl (Or.inl rfl)) (tg_name) (fun _ _ _ _ _ => sts_nil) (fun _ _ _ _ _ => sc (ok_text_of T) hr (by decide) rfl rfl passS (sa_last (se_sto (sv 1)))))))))
abbrev s_item_numbers : Stmt := top 16
theorem sc_item_numbers : FnScope ["item"] ["item"] (defScope s_item_numbers) := ⟨rfl, rfl, rfl, by decide +kernel, rfl, by decide +kernel, by decide +kernel⟩
theorem ok_item_numbers (T : Txt K mg) : Fok P w K mg base (CK K) 4 "item_numbers" ["item"] g_item_numbers := by
  exact fokX (f := m_item_numbers) (lv := 3) T.d_item_numbers T.g_item_numbers sc_item_numbers rfl (fun _ _ _ _ _ _ us hl => match us, hl with | [_], _ => rfl) (fun cdv A outer s H E hr tk hpo => by
    exact ss_cons (ss_drop (sc (ok_check_item T) hr (by decide) rfl rfl (fun σ => passAt tk σ) (sa_last (se_sto (sv 0))))) (ss_one (ss_ret (sc (ok_numbers_of T) hr (by decide) rfl rfl (fun σ => passAt tk σ) (sa_last (se_sto (sv 0)))))))
abbrev s_L_markerT : Stmt := top 66
theorem sc_L_markerT : FnScope ["shown", "item", "caught", "e"] ["shown", "item"] (defScope s_L_markerT) := ⟨rfl, rfl, rfl, by decide +kernel, rfl, by decide +kernel, by decide +kernel⟩
def m_L_markerT : M Fl := sSeq (sAsg 2 (eC .none)) (sSeq (sTry (sDrop (methM 0 1 g_M_undo aNil)) 3 2) (sSeq (sIf (mOr (nonM 2) (mOr (tst (bin dNe (callIO 1 g_L_error (aLast (eVar 2))) (eC (.str "none")))) (mOr (tst (bin dNe (methM 0 1 g_M_marked aNil) (mkLst (aNil)))) (tst (bin dNe (mkTup (aCons (sto (methM 0 1 g_M_text aNil)) (aCons (sto (methM 0 1 g_M_shortT aNil)) (aLast (sto (lenMk 0 g_M_len)))))) (mkTup (aCons (sto (eC (.str ""))) (aCons (sto (eC (.str ""))) (aLast (sto (eC (.int 0)))))))))))) (sRet (eC (.bool false))) (sNx)) (sRet (vAnd (bin dEq (methM 0 2 g_M_clear (aLast (sto (mkTup (aCons (sto (eC (.int 1))) (aCons (sto (eC (.int 3))) (aLast (sto (eC (.int 1)))))))))) (eC (.int 0))) (vAnd (bin dEq (methM 0 2 g_M_mark (aLast (sto (eVar 1)))) (callD dLen (aLast (callV 1 g_item_numbers (aLast (sto (eVar 1))))))) (vAnd (bin dEq (methM 0 1 g_M_undo aNil) (mkLst (aNil))) (vAnd (bin dEq (methM 0 1 g_M_undo aNil) (mkLst (aNil))) (bin dEq (lenMk 0 g_M_len) (eC (.int 0))))))))))
def g_L_markerT : En → Rs R := fnP m_L_markerT 2
theorem ok_L_markerT (T : Txt K mg) : Fok P w K mg base (CK K) 29 "_law_marker" ["shown", "item"] g_L_markerT := by
  exact fokP (f := m_L_markerT) (lv := 28) T.d_L_markerT T.g_L_markerT sc_L_markerT rfl (fun _ _ _ _ _ _ us hl => match us, hl with | [_, _], _ => rfl) (fun cdv A outer s H E hr => by
    exact ss_cons (ss_set (i := 2) sc_L_markerT.nd rfl (Or.inl rfl) (se_non)) (ss_cons (ss_try (i := 3) (j := 2) rfl rfl rfl sc_L_markerT.nd rfl rfl rfl (Or.inl rfl) ⟨rfl, by decide, .inl T.xr⟩ T.xm (fun W pn xe tk hpo => ss_one (ss_drop (smeth0 (ok_M_undo T) T.mM hr (by decide) rfl (pv 0) (fun σ => passAt tk σ))))) (ss_cons (ss_if (PW.pt (sw_or (st_isN (pv 2)) (sw_or (st_cmp (op_neA hr.units) oS_ne (scio (ok_L_error T) hr (by decide) rfl rfl passS (sa_last (sv 2))) (se_str) (nomark _)) (sw_or (st_cmp (op_neA hr.units) oS_ne (smeth0 (ok_M_marked T) T.mM hr (by decide) rfl (pv 0) passS) (se_lst (sa_nil)) (nomark _)) (sw_or1 (st_cmp (op_neA hr.units) oS_ne (se_tup (sa_cons (se_sto (smeth0 (ok_M_text T) T.mM hr (by decide) rfl (pv 0) passS)) (sa_cons (se_sto (smeth0 (ok_M_shortT T) T.mM hr (by decide) rfl (pv 0) passS)) (sa_last (se_sto (se_lenMk (ok_M_len T) hr (by decide) rfl T.b_len (pv 0) passS)))))) (se_tup (sa_cons (se_sto (se_str)) (sa_cons (se_sto (se_str)) (sa_last (se_sto (se_int)))))) (nomark _))))))) (ss_one (ss_ret (se_bl))) (ss_nil)) (ss_one (ss_ret (se_and (se_cmp (op_eqA hr.units) oS_eq (smeth (ok_M_clear T) T.mM hr (by decide) rfl (pv 0) passS (sa_last (se_sto (se_tup (sa_cons (se_sto (se_int)) (sa_cons (se_sto (se_int)) (sa_last (se_sto (se_int))))))))) (se_int) (nomark _)) (se_and (se_cmp (op_eqA hr.units) oS_eq (smeth (ok_M_mark T) T.mM hr (by decide) rfl (pv 0) passS (sa_last (se_sto (sv 1)))) (se_callB (call_len' rfl) cS_len rfl T.b_len (by decide +kernel) (sa_last (sc (ok_item_numbers T) hr (by decide) rfl rfl passS (sa_last (se_sto (sv 1)))))) (nomark _)) (se_and (se_cmp (op_eqA hr.units) oS_eq (smeth0 (ok_M_undo T) T.mM hr (by decide) rfl (pv 0) passS) (se_lst (sa_nil)) (nomark _)) (se_and (se_cmp (op_eqA hr.units) oS_eq (smeth0 (ok_M_undo T) T.mM hr (by decide) rfl (pv 0) passS) (se_lst (sa_nil)) (nomark _)) (se_one (se_cmp (op_eqA hr.units) oS_eq (se_lenMk (ok_M_len T) hr (by decide) rfl T.b_len (pv 0) passS) (se_int) (nomark _))))))))))))
abbrev s_L_items : Stmt := top 61
theorem sc_L_items : FnScope ["found", "first", "last", "by"] [] (defScope s_L_items) := ⟨rfl, rfl, rfl, by decide +kernel, rfl, by decide +kernel, by decide +kernel⟩
theorem ok_L_items (T : Txt K mg) : Fok P w K mg base (CK K) 1 "_law_items" [] g_L_items := by
  exact fokP (f := m_L_items) (lv := 0) T.d_L_items T.g_L_items sc_L_items rfl (fun _ _ _ _ _ _ us hl => match us, hl with | [], _ => rfl) (fun cdv A outer s H E hr => by
    exact ss_cons (ss_set (i := 0) sc_L_items.nd rfl (Or.inl rfl) (se_lst (sa_nil))) (ss_cons (ss_for (g := gName 1) PassesOwn.never rfl (si_range2 rfl T.b_range (sa_cons (se_int) (sa_last (se_int)))) (pg_name (i := 1) sc_L_items.nd rfl (by first | exact Or.inl rfl | exact Or.inr rfl)) (tg_name) (ss_cons (ss_drop (se_append rfl (pv 0) (se_tup (sa_cons (se_sto (sv 1)) (sa_cons (se_sto (sv 1)) (sa_last (se_sto (se_int)))))))) (ss_one (ss_for (g := gName 2) PassesOwn.never rfl (si_range2 rfl T.b_range (sa_cons (se_op op_addA oS_add (sv 1) (se_int)) (sa_last (se_int)))) (pg_name (i := 2) sc_L_items.nd rfl (by first | exact Or.inl rfl | exact Or.inr rfl)) (tg_name) (ss_one (ss_set (i := 0) sc_L_items.nd rfl (Or.inl rfl) (se_op op_addA oS_add (sv 0) (se_lc (own := [("by", 3)]) (g := gName 3) rfl rfl sc_L_items.nd (si_range2 rfl T.b_range (sa_cons (se_int) (sa_last (se_int)))) (blkOk_by (by kernel_rfl)) (fun _ _ _ _ _ => pg_name (i := 3) sc_L_items.nd rfl (Or.inl rfl)) (tg_name) (fun _ _ _ _ _ => sts_one (st_cmp (op_eqA hr.units) oS_eq (se_op op_mod oS_mod (se_op op_sub oS_sub (sv 2) (sv 1)) (sv 3)) (se_int) (nomark _))) (fun _ _ _ _ _ => se_tup (sa_cons (se_sto (sv 1)) (sa_cons (se_sto (sv 2)) (sa_last (se_sto (sv 3)))))))))))))) (ss_one (ss_ret (sv 0)))))
abbrev s_L_word : Stmt := top 62
theorem sc_L_word : FnScope ["item"] ["item"] (defScope s_L_word) := ⟨rfl, rfl, rfl, by decide +kernel, rfl, by decide +kernel, by decide +kernel⟩
theorem ok_L_word (T : Txt K mg) : Fok P w K mg base (CK K) 1 "_law_word" ["item"] g_L_word := by
  exact fokP (f := m_L_word) (lv := 0) T.d_L_word T.g_L_word sc_L_word rfl (fun _ _ _ _ _ _ us hl => match us, hl with | [_], _ => rfl) (fun cdv A outer s H E hr => by
    exact ss_cons (ss_if (st_cmp (op_eqA hr.units) oS_eq (se_ix rfl (sv 0) (se_int)) (se_ix rfl (sv 0) (se_int)) (nomark _)) (ss_one (ss_ret (se_callTy call_str_int cS_str rfl T.b_str (by decide +kernel) (sa_last (se_ix rfl (sv 0) (se_int)))))) (ss_nil)) (ss_one (ss_ret (se_op op_addA oS_add (se_op op_addA oS_add (se_op op_addA oS_add (se_callTy call_str_int cS_str rfl T.b_str (by decide +kernel) (sa_last (se_ix rfl (sv 0) (se_int)))) (se_str)) (se_callTy call_str_int cS_str rfl T.b_str (by decide +kernel) (sa_last (se_ix rfl (sv 0) (se_int))))) (se_if (st_cmp (op_eqA hr.units) oS_eq (se_ix rfl (sv 0) (se_int)) (se_int) (nomark _)) (se_str) (se_op op_addA oS_add (se_str) (se_callTy call_str_int cS_str rfl T.b_str (by decide +kernel) (sa_last (se_ix rfl (sv 0) (se_int))))))))))
abbrev s_is_set : Stmt := top 9
theorem sc_is_set : FnScope ["value", "one", "a", "b"] ["value"] (defScope s_is_set) := ⟨rfl, rfl, rfl, by decide +kernel, rfl, by decide +kernel, by decide +kernel⟩
theorem ok_is_set (T : Txt K mg) : Fok P w K mg base (CK K) 2 "is_set" ["value"] g_is_set := by
  obtain ⟨_, hMOST⟩ := T.c_MOST; exact fokP (f := m_is_set) (lv := 1) T.d_is_set T.g_is_set sc_is_set rfl (fun _ _ _ _ _ _ us hl => match us, hl with | [_], _ => rfl) (fun cdv A outer s H E hr => by
    exact ss_cons (ss_if (PW.pt (sw_or (st_not (st_val (se_isi rfl rfl T.b_isinstance rfl T.b_list (by decide +kernel) (sv 0)))) (sw_or (st_cmp (op_eqA hr.units) oS_eq (sv 0) (se_lst (sa_nil)) (nomark _)) (sw_or1 (st_not (st_val (se_callB (cr_all' rfl rfl) cS_all rfl T.b_all (by decide +kernel) (sa_last (se_lc (own := [("one", 1)]) (g := gName 1) rfl rfl sc_is_set.nd (si_seq rfl (sv 0)) (blkOk_by (by kernel_rfl)) (fun _ _ _ _ _ => pg_name (i := 1) sc_is_set.nd rfl (Or.inl rfl)) (tg_name) (fun _ _ _ _ _ => sts_nil) (fun _ _ _ _ _ => sc (ok_is_int T) hr (by decide) rfl rfl passS (sa_cons (se_sto (sv 1)) (sa_cons (se_sto (se_int)) (sa_last (se_sto (se_gInt rfl hMOST))))))))))))))) (ss_one (ss_ret (se_bl))) (ss_nil)) (ss_one (ss_ret (se_callB (cr_all' rfl rfl) cS_all rfl T.b_all (by decide +kernel) (sa_last (se_lc (own := [("a", 2), ("b", 3)]) (g := gTup K 2 (gNs [2, 3])) rfl rfl sc_is_set.nd (si_zip rfl rfl T.b_zip (sv 0) (se_slice rfl (sv 0) (so_some (se_int)) (so_none))) (blkOk_by (by kernel_rfl)) (fun _ _ _ _ _ => g_tup (k := ⟨K, CK K⟩) rfl rfl (gsN_cons (pg_name (i := 2) sc_is_set.nd rfl (Or.inl rfl)) (gsN_cons (pg_name (i := 3) sc_is_set.nd rfl (Or.inl rfl)) (gsN_nil)))) (tg_tup rfl) (fun _ _ _ _ _ => sts_nil) (fun _ _ _ _ _ => se_cmp op_lt oS_lt (sv 2) (sv 3) (nomark _))))))))
abbrev s_check_set : Stmt := top 10
theorem sc_check_set : FnScope ["value"] ["value"] (defScope s_check_set) := ⟨rfl, rfl, rfl, by decide +kernel, rfl, by decide +kernel, by decide +kernel⟩
theorem ok_check_set (T : Txt K mg) : Fok P w K mg base (CK K) 3 "check_set" ["value"] g_check_set := by
  exact fokX (f := m_check_set) (lv := 2) T.d_check_set T.g_check_set sc_check_set rfl (fun _ _ _ _ _ _ us hl => match us, hl with | [_], _ => rfl) (fun cdv A outer s H E hr tk hpo => by
    exact ss_one (ss_if (st_not (st_val (sc (ok_is_set T) hr (by decide) rfl rfl (fun σ => passAt tk σ) (sa_last (se_sto (sv 0)))))) (ss_one (ss_raise rfl tk T.x_0 rfl rfl rfl)) (ss_nil)))
abbrev s_number_in : Stmt := top 19
theorem sc_number_in : FnScope ["word", "sign"] ["word"] (defScope s_number_in) := ⟨rfl, rfl, rfl, by decide +kernel, rfl, by decide +kernel, by decide +kernel⟩
theorem ok_number_in (T : Txt K mg) : Fok P w K mg base (CK K) 1 "number_in" ["word"] g_number_in := by
  obtain ⟨_, hDIGITS⟩ := T.c_DIGITS; obtain ⟨_, hMOST⟩ := T.c_MOST; exact fokP (f := m_number_in) (lv := 0) T.d_number_in T.g_number_in sc_number_in rfl (fun _ _ _ _ _ _ us hl => match us, hl with | [_], _ => rfl) (fun cdv A outer s H E hr => by
    exact ss_cons (ss_if (PW.pt (sw_or (st_not (st_chain op_le op_le oS_le oS_le (se_int) (se_callB (call_len' rfl) cS_len rfl T.b_len (by decide +kernel) (sa_last (sv 0))) (se_int))) (sw_or (st_not (st_val (se_callB (cr_all' rfl rfl) cS_all rfl T.b_all (by decide +kernel) (sa_last (se_lc (own := [("sign", 1)]) (g := gName 1) rfl rfl sc_number_in.nd (si_seq rfl (sv 0)) (blkOk_by (by kernel_rfl)) (fun _ _ _ _ _ => pg_name (i := 1) sc_number_in.nd rfl (Or.inl rfl)) (tg_name) (fun _ _ _ _ _ => sts_nil) (fun _ _ _ _ _ => se_cmp (op_inA hr.u65) oS_in (sv 1) (se_gStr rfl hDIGITS) (by rfl))))))) (sw_or1 (st_cmp (op_neA hr.units) oS_ne (se_callTy call_str_int cS_str rfl T.b_str (by decide +kernel) (sa_last (se_callTy call_int_str cS_int rfl T.b_int (by decide +kernel) (sa_last (sv 0))))) (sv 0) (nomark _)))))) (ss_one (ss_ret (se_int))) (ss_nil)) (ss_one (ss_ret (se_if (st_cmp op_le oS_le (se_callTy call_int_str cS_int rfl T.b_int (by decide +kernel) (sa_last (sv 0))) (se_gInt rfl hMOST) (nomark _)) (se_callTy call_int_str cS_int rfl T.b_int (by decide +kernel) (sa_last (sv 0))) (se_int)))))
abbrev s_item_in : Stmt := top 20
theorem sc_item_in : FnScope ["text", "head", "slash", "tail", "first", "dash", "last", "step", "found"] ["text"] (defScope s_item_in) := ⟨rfl, rfl, rfl, by decide +kernel, rfl, by decide +kernel, by decide +kernel⟩
theorem ok_item_in (T : Txt K mg) : Fok P w K mg base (CK K) 3 "item_in" ["text"] g_item_in := by
  exact fokP (f := m_item_in) (lv := 2) T.d_item_in T.g_item_in sc_item_in rfl (fun _ _ _ _ _ _ us hl => match us, hl with | [_], _ => rfl) (fun cdv A outer s H E hr => by
    exact ss_cons (ss_unp (se_partition (sv 0) (se_str)) (g_tup (k := ⟨K, CK K⟩) rfl rfl (gsN_cons (pg_name (i := 1) sc_item_in.nd rfl (by first | exact Or.inl rfl | exact Or.inr rfl)) (gsN_cons (pg_name (i := 2) sc_item_in.nd rfl (by first | exact Or.inl rfl | exact Or.inr rfl)) (gsN_cons (pg_name (i := 3) sc_item_in.nd rfl (by first | exact Or.inl rfl | exact Or.inr rfl)) (gsN_nil))))) (tg_tup rfl)) (ss_cons (ss_unp (se_partition (sv 1) (se_str)) (g_tup (k := ⟨K, CK K⟩) rfl rfl (gsN_cons (pg_name (i := 4) sc_item_in.nd rfl (by first | exact Or.inl rfl | exact Or.inr rfl)) (gsN_cons (pg_name (i := 5) sc_item_in.nd rfl (by first | exact Or.inl rfl | exact Or.inr rfl)) (gsN_cons (pg_name (i := 6) sc_item_in.nd rfl (by first | exact Or.inl rfl | exact Or.inr rfl)) (gsN_nil))))) (tg_tup rfl)) (ss_cons (ss_if (PW.pt (sw_and (st_cmp (op_neA hr.units) oS_ne (sv 2) (se_str) (nomark _)) (sw_and1 (PW.pt (sw_or (st_cmp (op_eqA hr.units) oS_eq (sv 5) (se_str) (nomark _)) (sw_or1 (st_cmp op_lt oS_lt (sc (ok_number_in T) hr (by decide) rfl rfl passS (sa_last (se_sto (sv 3)))) (se_int) (nomark _)))))))) (ss_one (ss_ret (se_non))) (ss_nil)) (ss_cons (ss_set (i := 7) sc_item_in.nd rfl (Or.inl rfl) (se_sto (se_if (st_cmp (op_neA hr.units) oS_ne (sv 2) (se_str) (nomark _)) (sc (ok_number_in T) hr (by decide) rfl rfl passS (sa_last (se_sto (sv 3)))) (se_int)))) (ss_cons (ss_set (i := 8) sc_item_in.nd rfl (Or.inl rfl) (se_sto (se_tup (sa_cons (se_sto (sc (ok_number_in T) hr (by decide) rfl rfl passS (sa_last (se_sto (sv 4))))) (sa_cons (se_sto (sc (ok_number_in T) hr (by decide) rfl rfl passS (sa_last (se_sto (se_if (st_cmp (op_neA hr.units) oS_ne (sv 5) (se_str) (nomark _)) (sv 6) (sv 4)))))) (sa_last (se_sto (sv 7)))))))) (ss_cons (ss_if (PW.pt (sw_or (st_not (st_val (sc (ok_is_item T) hr (by decide) rfl rfl passS (sa_last (se_sto (sv 8)))))) (sw_or1 (st_cmp (op_neA hr.units) oS_ne (sc (ok_text_of T) hr (by decide) rfl rfl passS (sa_last (se_sto (sv 8)))) (sv 0) (nomark _))))) (ss_one (ss_ret (se_non))) (ss_nil)) (ss_one (ss_ret (sv 8)))))))))
abbrev s_items_in : Stmt := top 24
theorem sc_items_in : FnScope ["text", "found", "part"] ["text"] (defScope s_items_in) := ⟨rfl, rfl, rfl, by decide +kernel, rfl, by decide +kernel, by decide +kernel⟩
theorem ok_items_in (T : Txt K mg) : Fok P w K mg base (CK K) 4 "items_in" ["text"] g_items_in := by
  exact fokP (f := m_items_in) (lv := 3) T.d_items_in T.g_items_in sc_items_in rfl (fun _ _ _ _ _ _ us hl => match us, hl with | [_], _ => rfl) (fun cdv A outer s H E hr => by
    exact ss_cons (ss_if (st_not (st_val (se_isi rfl rfl T.b_isinstance rfl T.b_str (by decide +kernel) (sv 0)))) (ss_one (ss_ret (se_non))) (ss_nil)) (ss_cons (ss_frz (ss_setLc (i := 1) (own := [("part", 2)]) (g := gName 2) rfl rfl sc_items_in.nd rfl rfl (sw_true rfl rfl rfl (by decide +kernel)) (si_seq rfl (se_split (sv 0) (se_str))) (blkOk_by (by kernel_rfl)) (fun _ _ _ _ _ => pg_name (i := 2) sc_items_in.nd rfl (Or.inl rfl)) (tg_name) (fun _ _ _ _ _ => sts_nil) (fun _ _ _ _ _ => sc (ok_item_in T) hr (by decide) rfl rfl passS (sa_last (se_sto (sv 2)))))) (ss_one (ss_ret (se_if (st_cmp (op_notinA hr.u65) oS_notin (se_non) (sv 1) (by rfl)) (sv 1) (se_non))))))
abbrev s_check_text : Stmt := top 26
theorem sc_check_text : FnScope ["text"] ["text"] (defScope s_check_text) := ⟨rfl, rfl, rfl, by decide +kernel, rfl, by decide +kernel, by decide +kernel⟩
theorem ok_check_text (T : Txt K mg) : Fok P w K mg base (CK K) 5 "check_text" ["text"] g_check_text := by
  exact fokX (f := m_check_text) (lv := 4) T.d_check_text T.g_check_text sc_check_text rfl (fun _ _ _ _ _ _ us hl => match us, hl with | [_], _ => rfl) (fun cdv A outer s H E hr tk hpo => by
    exact ss_one (ss_if (st_cmp op_isA oS_is (sc (ok_items_in T) hr (by decide) rfl rfl (fun σ => passAt tk σ) (sa_last (se_sto (sv 0)))) (se_non) (nomark _)) (ss_one (ss_raise rfl tk T.x_3 rfl rfl rfl)) (ss_nil)))
abbrev s_set_of : Stmt := top 25
theorem sc_set_of : FnScope ["items", "found", "item"] ["items"] (defScope s_set_of) := ⟨rfl, rfl, rfl, by decide +kernel, rfl, by decide +kernel, by decide +kernel⟩
theorem ok_set_of (T : Txt K mg) : Fok P w K mg base (CK K) 2 "set_of" ["items"] g_set_of := by
  exact fokP (f := m_set_of) (lv := 1) T.d_set_of T.g_set_of sc_set_of rfl (fun _ _ _ _ _ _ us hl => match us, hl with | [_], _ => rfl) (fun cdv A outer s H E hr => by
    exact ss_cons (ss_set (i := 1) sc_set_of.nd rfl (Or.inl rfl) (se_lst (sa_nil))) (ss_cons (ss_for (g := gName 2) PassesOwn.never rfl (si_seq rfl (sv 0)) (pg_name (i := 2) sc_set_of.nd rfl (by first | exact Or.inl rfl | exact Or.inr rfl)) (tg_name) (ss_one (ss_aug (i := 1) sc_set_of.nd rfl (Or.inl rfl) (sc (ok_numbers_of T) hr (by decide) rfl rfl passS (sa_last (se_sto (sv 2))))))) (ss_one (ss_ret (se_sortSet rfl rfl rfl T.b_sorted rfl T.b_set (sv 1))))))
abbrev s_contains : Stmt := top 49
theorem sc_contains : FnScope ["some", "text", "number"] ["some", "text"] (defScope s_contains) := ⟨rfl, rfl, rfl, by decide +kernel, rfl, by decide +kernel, by decide +kernel⟩
theorem ok_contains (T : Txt K mg) : Fok P w K mg base (CK K) 6 "contains" ["some", "text"] g_contains := by
  exact fokX (f := m_contains) (lv := 5) T.d_contains T.g_contains sc_contains rfl (fun _ _ _ _ _ _ us hl => match us, hl with | [_, _], _ => rfl) (fun cdv A outer s H E hr tk hpo => by
    exact ss_cons (ss_drop (sc (ok_check_set T) hr (by decide) rfl rfl (fun σ => passAt tk σ) (sa_last (se_sto (sv 0))))) (ss_cons (ss_drop (sc (ok_check_text T) hr (by decide) rfl rfl (fun σ => passAt tk σ) (sa_last (se_sto (sv 1))))) (ss_one (ss_ret (se_callB (cr_all' rfl rfl) cS_all rfl T.b_all (by decide +kernel) (sa_last (se_lc (own := [("number", 2)]) (g := gName 2) rfl rfl sc_contains.nd (si_seq rfl (sc (ok_set_of T) hr (by decide) rfl rfl (fun σ => passAt tk σ) (sa_last (se_sto (sc (ok_items_in T) hr (by decide) rfl rfl (fun σ => passAt tk σ) (sa_last (se_sto (sv 1)))))))) (blkOk_by (by kernel_rfl)) (fun _ _ _ _ _ => pg_name (i := 2) sc_contains.nd rfl (Or.inl rfl)) (tg_name) (fun _ _ _ _ _ => sts_nil) (fun _ _ _ _ _ => se_cmp (op_inA hr.u65) oS_in (sv 2) (sv 0) (by rfl)))))))))
abbrev s_parse : Stmt := top 28
theorem sc_parse : FnScope ["text"] ["text"] (defScope s_parse) := ⟨rfl, rfl, rfl, by decide +kernel, rfl, by decide +kernel, by decide +kernel⟩
theorem ok_parse (T : Txt K mg) : Fok P w K mg base (CK K) 6 "parse" ["text"] g_parse := by
  exact fokX (f := m_parse) (lv := 5) T.d_parse T.g_parse sc_parse rfl (fun _ _ _ _ _ _ us hl => match us, hl with | [_], _ => rfl) (fun cdv A outer s H E hr tk hpo => by
    exact ss_cons (ss_drop (sc (ok_check_text T) hr (by decide) rfl rfl (fun σ => passAt tk σ) (sa_last (se_sto (sv 0))))) (ss_one (ss_ret (sc (ok_set_of T) hr (by decide) rfl rfl (fun σ => passAt tk σ) (sa_last (se_sto (sc (ok_items_in T) hr (by decide) rfl rfl (fun σ => passAt tk σ) (sa_last (se_sto (sv 0))))))))))
abbrev s_items : Stmt := top 29
theorem sc_items : FnScope ["text"] ["text"] (defScope s_items) := ⟨rfl, rfl, rfl, by decide +kernel, rfl, by decide +kernel, by decide +kernel⟩
theorem ok_items (T : Txt K mg) : Fok P w K mg base (CK K) 6 "items" ["text"] g_items := by
  exact fokX (f := m_items) (lv := 5) T.d_items T.g_items sc_items rfl (fun _ _ _ _ _ _ us hl => match us, hl with | [_], _ => rfl) (fun cdv A outer s H E hr tk hpo => by
    exact ss_cons (ss_drop (sc (ok_check_text T) hr (by decide) rfl rfl (fun σ => passAt tk σ) (sa_last (se_sto (sv 0))))) (ss_one (ss_ret (sc (ok_items_in T) hr (by decide) rfl rfl (fun σ => passAt tk σ) (sa_last (se_sto (sv 0)))))))
abbrev s_needless : Stmt := top 32
theorem sc_needless : FnScope ["text", "every", "found", "place", "item", "rest"] ["text"] (defScope s_needless) := ⟨rfl, rfl, rfl, by decide +kernel, rfl, by decide +kernel, by decide +kernel⟩
theorem ok_needless (T : Txt K mg) : Fok P w K mg base (CK K) 6 "needless" ["text"] g_needless := by
  exact fokX (f := m_needless) (lv := 5) T.d_needless T.g_needless sc_needless rfl (fun _ _ _ _ _ _ us hl => match us, hl with | [_], _ => rfl) (fun cdv A outer s H E hr tk hpo => by
    exact ss_cons (ss_drop (sc (ok_check_text T) hr (by decide) rfl rfl (fun σ => passAt tk σ) (sa_last (se_sto (sv 0))))) (ss_cons (ss_set (i := 1) sc_needless.nd rfl (Or.inl rfl) (se_sto (sc (ok_items_in T) hr (by decide) rfl rfl (fun σ => passAt tk σ) (sa_last (se_sto (sv 0)))))) (ss_cons (ss_set (i := 2) sc_needless.nd rfl (Or.inl rfl) (se_lst (sa_nil))) (ss_cons (ss_for (g := gTup K 2 (gNs [3, 4])) hpo rfl (si_enum rfl rfl T.b_enumerate (sv 1)) (g_tup (k := ⟨K, CK K⟩) rfl rfl (gsN_cons (pg_name (i := 3) sc_needless.nd rfl (by first | exact Or.inl rfl | exact Or.inr rfl)) (gsN_cons (pg_name (i := 4) sc_needless.nd rfl (by first | exact Or.inl rfl | exact Or.inr rfl)) (gsN_nil)))) (tg_tup rfl) (ss_cons (ss_set (i := 5) sc_needless.nd rfl (Or.inl rfl) (se_sto (se_op op_addA oS_add (se_slice rfl (sv 1) (so_none) (so_some (sv 3))) (se_slice rfl (sv 1) (so_some (se_op op_addA oS_add (sv 3) (se_int))) (so_none))))) (ss_one (ss_if (PW.pt (sw_and (st_cmp (op_neA hr.units) oS_ne (sv 5) (se_lst (sa_nil)) (nomark _)) (sw_and1 (st_cmp (op_eqA hr.units) oS_eq (sc (ok_set_of T) hr (by decide) rfl rfl (fun σ => passAt tk σ) (sa_last (se_sto (sv 5)))) (sc (ok_set_of T) hr (by decide) rfl rfl (fun σ => passAt tk σ) (sa_last (se_sto (sv 1)))) (nomark _))))) (ss_one (ss_drop (se_append rfl (pv 2) (sv 3)))) (ss_nil))))) (ss_one (ss_ret (sv 2)))))))
abbrev s_covered_times : Stmt := top 33
theorem sc_covered_times : FnScope ["text", "every", "one", "item"] ["text"] (defScope s_covered_times) := ⟨rfl, rfl, rfl, by decide +kernel, rfl, by decide +kernel, by decide +kernel⟩
theorem ok_covered_times (T : Txt K mg) : Fok P w K mg base (CK K) 6 "covered_times" ["text"] g_covered_times := by
  exact fokX (f := m_covered_times) (lv := 5) T.d_covered_times T.g_covered_times sc_covered_times rfl (fun _ _ _ _ _ _ us hl => match us, hl with | [_], _ => rfl) (fun cdv A outer s H E hr tk hpo => by
    exact ss_cons (ss_drop (sc (ok_check_text T) hr (by decide) rfl rfl (fun σ => passAt tk σ) (sa_last (se_sto (sv 0))))) (ss_cons (ss_set (i := 1) sc_covered_times.nd rfl (Or.inr rfl) (se_sto (sc (ok_items_in T) hr (by decide) rfl rfl (fun σ => passAt tk σ) (sa_last (se_sto (sv 0)))))) (ss_one (ss_ret (se_lc (own := [("one", 2)]) (g := gName 2) rfl rfl sc_covered_times.nd (si_seq rfl (sc (ok_set_of T) hr (by decide) rfl rfl (fun σ => passAt tk σ) (sa_last (se_sto (sv 1))))) (blkOk_by (by kernel_rfl)) (fun _ _ _ _ _ => pg_name (i := 2) sc_covered_times.nd rfl (Or.inr rfl)) (tg_name) (fun _ _ _ _ _ => sts_nil) (fun _ _ _ _ _ => se_tup (sa_cons (se_sto (sv 2)) (sa_last (se_sto (se_callB (call_len' rfl) cS_len rfl T.b_len (by decide +kernel) (sa_last (se_lc (own := [("item", 3)]) (g := gName 3) rfl rfl sc_covered_times.nd (si_seq rfl (sv 1)) (blkOk_by (by kernel_rfl)) (fun _ _ _ _ _ => pg_name (i := 3) sc_covered_times.nd rfl (Or.inl rfl)) (tg_name) (fun _ _ _ _ _ => sts_one (st_cmp (op_inA hr.u65) oS_in (sv 2) (sc (ok_numbers_of T) hr (by decide) rfl rfl passS (sa_last (se_sto (sv 3)))) (by rfl))) (fun _ _ _ _ _ => sv 3)))))))))))))
abbrev s_tidy : Stmt := top 37
theorem sc_tidy : FnScope ["text"] ["text"] (defScope s_tidy) := ⟨rfl, rfl, rfl, by decide +kernel, rfl, by decide +kernel, by decide +kernel⟩
theorem ok_tidy (T : Txt K mg) : Fok P w K mg base (CK K) 6 "tidy" ["text"] g_tidy := by
  exact fokX (f := m_tidy) (lv := 5) T.d_tidy T.g_tidy sc_tidy rfl (fun _ _ _ _ _ _ us hl => match us, hl with | [_], _ => rfl) (fun cdv A outer s H E hr tk hpo => by
    exact ss_cons (ss_drop (sc (ok_check_text T) hr (by decide) rfl rfl (fun σ => passAt tk σ) (sa_last (se_sto (sv 0))))) (ss_one (ss_ret (sc (ok_plain_of T) hr (by decide) rfl rfl (fun σ => passAt tk σ) (sa_last (se_sto (sc (ok_set_of T) hr (by decide) rfl rfl (fun σ => passAt tk σ) (sa_last (se_sto (sc (ok_items_in T) hr (by decide) rfl rfl (fun σ => passAt tk σ) (sa_last (se_sto (sv 0)))))))))))))
abbrev s_is_plain : Stmt := top 38
theorem sc_is_plain : FnScope ["text"] ["text"] (defScope s_is_plain) := ⟨rfl, rfl, rfl, by decide +kernel, rfl, by decide +kernel, by decide +kernel⟩
theorem ok_is_plain (T : Txt K mg) : Fok P w K mg base (CK K) 6 "is_plain" ["text"] g_is_plain := by
  exact fokX (f := m_is_plain) (lv := 5) T.d_is_plain T.g_is_plain sc_is_plain rfl (fun _ _ _ _ _ _ us hl => match us, hl with | [_], _ => rfl) (fun cdv A outer s H E hr tk hpo => by
    exact ss_cons (ss_drop (sc (ok_check_text T) hr (by decide) rfl rfl (fun σ => passAt tk σ) (sa_last (se_sto (sv 0))))) (ss_one (ss_ret (se_cmp (op_eqA hr.units) oS_eq (sc (ok_plain_of T) hr (by decide) rfl rfl (fun σ => passAt tk σ) (sa_last (se_sto (sc (ok_set_of T) hr (by decide) rfl rfl (fun σ => passAt tk σ) (sa_last (se_sto (sc (ok_items_in T) hr (by decide) rfl rfl (fun σ => passAt tk σ) (sa_last (se_sto (sv 0)))))))))) (sv 0) (nomark _)))))
abbrev s_length_of : Stmt := top 42
theorem sc_length_of : FnScope ["some"] ["some"] (defScope s_length_of) := ⟨rfl, rfl, rfl, by decide +kernel, rfl, by decide +kernel, by decide +kernel⟩
theorem ok_length_of (T : Txt K mg) : Fok P w K mg base (CK K) 14 "length_of" ["some"] g_length_of := by
  exact fokP (f := m_length_of) (lv := 13) T.d_length_of T.g_length_of sc_length_of rfl (fun _ _ _ _ _ _ us hl => match us, hl with | [_], _ => rfl) (fun cdv A outer s H E hr => by
    exact ss_one (ss_ret (se_op op_sub oS_sub (scio (ok_least_from T 12) hr (by decide) rfl rfl passS (sa_cons (se_sto (se_callTy (call_tuple' rfl) cS_tuple rfl T.b_tuple (by decide +kernel) (sa_last (sv 0)))) (sa_cons (se_sto (sc (ok_weighed T) hr (by decide) rfl rfl passS (sa_last (se_sto (sv 0))))) (sa_last (se_dnewT))))) (se_int))))
abbrev s_is_shortest : Stmt := top 45
theorem sc_is_shortest : FnScope ["text"] ["text"] (defScope s_is_shortest) := ⟨rfl, rfl, rfl, by decide +kernel, rfl, by decide +kernel, by decide +kernel⟩
theorem ok_is_shortest (T : Txt K mg) : Fok P w K mg base (CK K) 15 "is_shortest" ["text"] g_is_shortest := by
  exact fokX (f := m_is_shortest) (lv := 14) T.d_is_shortest T.g_is_shortest sc_is_shortest rfl (fun _ _ _ _ _ _ us hl => match us, hl with | [_], _ => rfl) (fun cdv A outer s H E hr tk hpo => by
    exact ss_cons (ss_drop (sc (ok_check_text T) hr (by decide) rfl rfl (fun σ => passAt tk σ) (sa_last (se_sto (sv 0))))) (ss_one (ss_ret (se_cmp (op_eqA hr.units) oS_eq (se_callB (call_len' rfl) cS_len rfl T.b_len (by decide +kernel) (sa_last (sv 0))) (sc (ok_length_of T) hr (by decide) rfl rfl (fun σ => passAt tk σ) (sa_last (se_sto (sc (ok_set_of T) hr (by decide) rfl rfl (fun σ => passAt tk σ) (sa_last (se_sto (sc (ok_items_in T) hr (by decide) rfl rfl (fun σ => passAt tk σ) (sa_last (se_sto (sv 0)))))))))) (nomark _)))))
abbrev s_shorter_by : Stmt := top 46
theorem sc_shorter_by : FnScope ["text"] ["text"] (defScope s_shorter_by) := ⟨rfl, rfl, rfl, by decide +kernel, rfl, by decide +kernel, by decide +kernel⟩
theorem ok_shorter_by (T : Txt K mg) : Fok P w K mg base (CK K) 15 "shorter_by" ["text"] g_shorter_by := by
  exact fokX (f := m_shorter_by) (lv := 14) T.d_shorter_by T.g_shorter_by sc_shorter_by rfl (fun _ _ _ _ _ _ us hl => match us, hl with | [_], _ => rfl) (fun cdv A outer s H E hr tk hpo => by
    exact ss_cons (ss_drop (sc (ok_check_text T) hr (by decide) rfl rfl (fun σ => passAt tk σ) (sa_last (se_sto (sv 0))))) (ss_one (ss_ret (se_op op_sub oS_sub (se_callB (call_len' rfl) cS_len rfl T.b_len (by decide +kernel) (sa_last (sv 0))) (sc (ok_length_of T) hr (by decide) rfl rfl (fun σ => passAt tk σ) (sa_last (se_sto (sc (ok_set_of T) hr (by decide) rfl rfl (fun σ => passAt tk σ) (sa_last (se_sto (sc (ok_items_in T) hr (by decide) rfl rfl (fun σ => passAt tk σ) (sa_last (se_sto (sv 0))))))))))))))
abbrev s_pruned : Stmt := top 53
theorem sc_pruned : FnScope ["text", "every", "place", "rest", "item"] ["text"] (defScope s_pruned) := ⟨rfl, rfl, rfl, by decide +kernel, rfl, by decide +kernel, by decide +kernel⟩
theorem ok_pruned (T : Txt K mg) : Fok P w K mg base (CK K) 6 "pruned" ["text"] g_pruned := by
  exact fokX (f := m_pruned) (lv := 5) T.d_pruned T.g_pruned sc_pruned rfl (fun _ _ _ _ _ _ us hl => match us, hl with | [_], _ => rfl) (fun cdv A outer s H E hr tk hpo => by
    exact ss_cons (ss_drop (sc (ok_check_text T) hr (by decide) rfl rfl (fun σ => passAt tk σ) (sa_last (se_sto (sv 0))))) (ss_cons (ss_set (i := 1) sc_pruned.nd rfl (Or.inl rfl) (se_sto (sc (ok_items_in T) hr (by decide) rfl rfl (fun σ => passAt tk σ) (sa_last (se_sto (sv 0)))))) (ss_cons (ss_set (i := 2) sc_pruned.nd rfl (Or.inl rfl) (se_int)) (ss_cons (ss_while (n := 400) hpo (st_cmp op_lt oS_lt (sv 2) (se_callB (call_len' rfl) cS_len rfl T.b_len (by decide +kernel) (sa_last (sv 1))) (nomark _)) (ss_cons (ss_set (i := 3) sc_pruned.nd rfl (Or.inl rfl) (se_sto (se_op op_addA oS_add (se_slice rfl (sv 1) (so_none) (so_some (sv 2))) (se_slice rfl (sv 1) (so_some (se_op op_addA oS_add (sv 2) (se_int))) (so_none))))) (ss_one (ss_if (PW.pt (sw_and (st_cmp (op_neA hr.units) oS_ne (sv 3) (se_lst (sa_nil)) (nomark _)) (sw_and1 (st_cmp (op_eqA hr.units) oS_eq (sc (ok_set_of T) hr (by decide) rfl rfl (fun σ => passAt tk σ) (sa_last (se_sto (sv 3)))) (sc (ok_set_of T) hr (by decide) rfl rfl (fun σ => passAt tk σ) (sa_last (se_sto (sv 1)))) (nomark _))))) (ss_cons (ss_set (i := 1) sc_pruned.nd rfl (Or.inl rfl) (se_sto (sv 3))) (ss_one (ss_set (i := 2) sc_pruned.nd rfl (Or.inl rfl) (se_int)))) (ss_one (ss_aug (i := 2) sc_pruned.nd rfl (Or.inl rfl) (se_int))))))) (ss_one (ss_ret (se_join rfl (se_str) (se_lc (own := [("item", 4)]) (g := gName 4) rfl rfl sc_pruned.nd (si_seq rfl (sv 1)) (blkOk_by (by kernel_rfl)) (fun _ _ _ _ _ => pg_name (i := 4) sc_pruned.nd rfl (Or.inl rfl)) (tg_name) (fun _ _ _ _ _ => sts_nil) (fun _ _ _ _ _ => sc (ok_text_of T) hr (by decide) rfl rfl passS (sa_last (se_sto (sv 4))))))))))))
abbrev s_mean_same : Stmt := top 31
theorem sc_mean_same : FnScope ["text", "other"] ["text", "other"] (defScope s_mean_same) := ⟨rfl, rfl, rfl, by decide +kernel, rfl, by decide +kernel, by decide +kernel⟩
theorem ok_mean_same (T : Txt K mg) : Fok P w K mg base (CK K) 6 "mean_same" ["text", "other"] g_mean_same := by
  exact fokX (f := m_mean_same) (lv := 5) T.d_mean_same T.g_mean_same sc_mean_same rfl (fun _ _ _ _ _ _ us hl => match us, hl with | [_, _], _ => rfl) (fun cdv A outer s H E hr tk hpo => by
    exact ss_cons (ss_drop (sc (ok_check_text T) hr (by decide) rfl rfl (fun σ => passAt tk σ) (sa_last (se_sto (sv 0))))) (ss_cons (ss_drop (sc (ok_check_text T) hr (by decide) rfl rfl (fun σ => passAt tk σ) (sa_last (se_sto (sv 1))))) (ss_one (ss_ret (se_cmp (op_eqA hr.units) oS_eq (sc (ok_set_of T) hr (by decide) rfl rfl (fun σ => passAt tk σ) (sa_last (se_sto (sc (ok_items_in T) hr (by decide) rfl rfl (fun σ => passAt tk σ) (sa_last (se_sto (sv 0))))))) (sc (ok_set_of T) hr (by decide) rfl rfl (fun σ => passAt tk σ) (sa_last (se_sto (sc (ok_items_in T) hr (by decide) rfl rfl (fun σ => passAt tk σ) (sa_last (se_sto (sv 1))))))) (nomark _))))))
abbrev s_join_texts : Stmt := top 48
theorem sc_join_texts : FnScope ["text", "other"] ["text", "other"] (defScope s_join_texts) := ⟨rfl, rfl, rfl, by decide +kernel, rfl, by decide +kernel, by decide +kernel⟩
theorem ok_join_texts (T : Txt K mg) : Fok P w K mg base (CK K) 6 "join_texts" ["text", "other"] g_join_texts := by
  exact fokX (f := m_join_texts) (lv := 5) T.d_join_texts T.g_join_texts sc_join_texts rfl (fun _ _ _ _ _ _ us hl => match us, hl with | [_, _], _ => rfl) (fun cdv A outer s H E hr tk hpo => by
    exact ss_cons (ss_drop (sc (ok_check_text T) hr (by decide) rfl rfl (fun σ => passAt tk σ) (sa_last (se_sto (sv 0))))) (ss_cons (ss_drop (sc (ok_check_text T) hr (by decide) rfl rfl (fun σ => passAt tk σ) (sa_last (se_sto (sv 1))))) (ss_one (ss_ret (sc (ok_plain_of T) hr (by decide) rfl rfl (fun σ => passAt tk σ) (sa_last (se_sto (sc (ok_set_of T) hr (by decide) rfl rfl (fun σ => passAt tk σ) (sa_last (se_sto (se_op op_addA oS_add (sc (ok_items_in T) hr (by decide) rfl rfl (fun σ => passAt tk σ) (sa_last (se_sto (sv 0)))) (sc (ok_items_in T) hr (by decide) rfl rfl (fun σ => passAt tk σ) (sa_last (se_sto (sv 1)))))))))))))))
abbrev s_L_text_call : Stmt := top 63
theorem sc_L_text_call : FnScope ["kind", "text"] ["kind", "text"] (defScope s_L_text_call) := ⟨rfl, rfl, rfl, by decide +kernel, rfl, by decide +kernel, by decide +kernel⟩
theorem ok_L_text_call (T : Txt K mg) : Fok P w K mg base (CK K) 16 "_law_text_call" ["kind", "text"] g_L_text_call := by
  exact fokX (f := m_L_text_call) (lv := 15) T.d_L_text_call T.g_L_text_call sc_L_text_call rfl (fun _ _ _ _ _ _ us hl => match us, hl with | [_, _], _ => rfl) (fun cdv A outer s H E hr tk hpo => by
    exact ss_cons (ss_if (st_cmp (op_eqA hr.units) oS_eq (sv 0) (se_int) (nomark _)) (ss_one (ss_ret (sc (ok_parse T) hr (by decide) rfl rfl (fun σ => passAt tk σ) (sa_last (se_sto (sv 1)))))) (ss_nil)) (ss_cons (ss_if (st_cmp (op_eqA hr.units) oS_eq (sv 0) (se_int) (nomark _)) (ss_one (ss_ret (sc (ok_items T) hr (by decide) rfl rfl (fun σ => passAt tk σ) (sa_last (se_sto (sv 1)))))) (ss_nil)) (ss_cons (ss_if (st_cmp (op_eqA hr.units) oS_eq (sv 0) (se_int) (nomark _)) (ss_one (ss_ret (sc (ok_needless T) hr (by decide) rfl rfl (fun σ => passAt tk σ) (sa_last (se_sto (sv 1)))))) (ss_nil)) (ss_cons (ss_if (st_cmp (op_eqA hr.units) oS_eq (sv 0) (se_int) (nomark _)) (ss_one (ss_ret (sc (ok_covered_times T) hr (by decide) rfl rfl (fun σ => passAt tk σ) (sa_last (se_sto (sv 1)))))) (ss_nil)) (ss_cons (ss_if (st_cmp (op_eqA hr.units) oS_eq (sv 0) (se_int) (nomark _)) (ss_one (ss_ret (sc (ok_tidy T) hr (by decide) rfl rfl (fun σ => passAt tk σ) (sa_last (se_sto (sv 1)))))) (ss_nil)) (ss_cons (ss_if (st_cmp (op_eqA hr.units) oS_eq (sv 0) (se_int) (nomark _)) (ss_one (ss_ret (sc (ok_is_plain T) hr (by decide) rfl rfl (fun σ => passAt tk σ) (sa_last (se_sto (sv 1)))))) (ss_nil)) (ss_cons (ss_if (st_cmp (op_eqA hr.units) oS_eq (sv 0) (se_int) (nomark _)) (ss_one (ss_ret (sc (ok_is_shortest T) hr (by decide) rfl rfl (fun σ => passAt tk σ) (sa_last (se_sto (sv 1)))))) (ss_nil)) (ss_cons (ss_if (st_cmp (op_eqA hr.units) oS_eq (sv 0) (se_int) (nomark _)) (ss_one (ss_ret (sc (ok_shorter_by T) hr (by decide) rfl rfl (fun σ => passAt tk σ) (sa_last (se_sto (sv 1)))))) (ss_nil)) (ss_cons (ss_if (st_cmp (op_eqA hr.units) oS_eq (sv 0) (se_int) (nomark _)) (ss_one (ss_ret (sc (ok_pruned T) hr (by decide) rfl rfl (fun σ => passAt tk σ) (sa_last (se_sto (sv 1)))))) (ss_nil)) (ss_cons (ss_if (st_cmp (op_eqA hr.units) oS_eq (sv 0) (se_int) (nomark _)) (ss_one (ss_ret (sc (ok_mean_same T) hr (by decide) rfl rfl (fun σ => passAt tk σ) (sa_cons (se_sto (sv 1)) (sa_last (se_sto (se_str))))))) (ss_nil)) (ss_cons (ss_if (st_cmp (op_eqA hr.units) oS_eq (sv 0) (se_int) (nomark _)) (ss_one (ss_ret (sc (ok_mean_same T) hr (by decide) rfl rfl (fun σ => passAt tk σ) (sa_cons (se_sto (se_str)) (sa_last (se_sto (sv 1))))))) (ss_nil)) (ss_cons (ss_if (st_cmp (op_eqA hr.units) oS_eq (sv 0) (se_int) (nomark _)) (ss_one (ss_ret (sc (ok_join_texts T) hr (by decide) rfl rfl (fun σ => passAt tk σ) (sa_cons (se_sto (sv 1)) (sa_last (se_sto (se_str))))))) (ss_nil)) (ss_cons (ss_if (st_cmp (op_eqA hr.units) oS_eq (sv 0) (se_int) (nomark _)) (ss_one (ss_ret (sc (ok_join_texts T) hr (by decide) rfl rfl (fun σ => passAt tk σ) (sa_cons (se_sto (se_str)) (sa_last (se_sto (sv 1))))))) (ss_nil)) (ss_one (ss_ret (sc (ok_contains T) hr (by decide) rfl rfl (fun σ => passAt tk σ) (sa_cons (se_sto (se_lst (sa_last (se_sto (se_int))))) (sa_last (se_sto (sv 1))))))))))))))))))))
abbrev s_item_text : Stmt := top 18
theorem sc_item_text : FnScope ["item"] ["item"] (defScope s_item_text) := ⟨rfl, rfl, rfl, by decide +kernel, rfl, by decide +kernel, by decide +kernel⟩
theorem ok_item_text (T : Txt K mg) : Fok P w K mg base (CK K) 4 "item_text" ["item"] g_item_text := by
  exact fokX (f := m_item_text) (lv := 3) T.d_item_text T.g_item_text sc_item_text rfl (fun _ _ _ _ _ _ us hl => match us, hl with | [_], _ => rfl) (fun cdv A outer s H E hr tk hpo => by
    exact ss_cons (ss_drop (sc (ok_check_item T) hr (by decide) rfl rfl (fun σ => passAt tk σ) (sa_last (se_sto (sv 0))))) (ss_one (ss_ret (sc (ok_text_of T) hr (by decide) rfl rfl (fun σ => passAt tk σ) (sa_last (se_sto (sv 0)))))))
abbrev s_with_item : Stmt := top 51
theorem sc_with_item : FnScope ["text", "item"] ["text", "item"] (defScope s_with_item) := ⟨rfl, rfl, rfl, by decide +kernel, rfl, by decide +kernel, by decide +kernel⟩
theorem ok_with_item (T : Txt K mg) : Fok P w K mg base (CK K) 6 "with_item" ["text", "item"] g_with_item := by
  exact fokX (f := m_with_item) (lv := 5) T.d_with_item T.g_with_item sc_with_item rfl (fun _ _ _ _ _ _ us hl => match us, hl with | [_, _], _ => rfl) (fun cdv A outer s H E hr tk hpo => by
    exact ss_cons (ss_drop (sc (ok_check_text T) hr (by decide) rfl rfl (fun σ => passAt tk σ) (sa_last (se_sto (sv 0))))) (ss_cons (ss_drop (sc (ok_check_item T) hr (by decide) rfl rfl (fun σ => passAt tk σ) (sa_last (se_sto (sv 1))))) (ss_one (ss_ret (se_op op_addA oS_add (se_op op_addA oS_add (sv 0) (se_str)) (sc (ok_text_of T) hr (by decide) rfl rfl (fun σ => passAt tk σ) (sa_last (se_sto (sv 1)))))))))
abbrev s_without_item : Stmt := top 52
theorem sc_without_item : FnScope ["text", "place", "parts"] ["text", "place"] (defScope s_without_item) := ⟨rfl, rfl, rfl, by decide +kernel, rfl, by decide +kernel, by decide +kernel⟩
theorem ok_without_item (T : Txt K mg) : Fok P w K mg base (CK K) 6 "without_item" ["text", "place"] g_without_item := by
  exact fokX (f := m_without_item) (lv := 5) T.d_without_item T.g_without_item sc_without_item rfl (fun _ _ _ _ _ _ us hl => match us, hl with | [_, _], _ => rfl) (fun cdv A outer s H E hr tk hpo => by
    exact ss_cons (ss_drop (sc (ok_check_text T) hr (by decide) rfl rfl (fun σ => passAt tk σ) (sa_last (se_sto (sv 0))))) (ss_cons (ss_set (i := 2) sc_without_item.nd rfl (Or.inl rfl) (se_sto (se_split (sv 0) (se_str)))) (ss_cons (ss_if (st_not (st_val (sc (ok_is_int T) hr (by decide) rfl rfl (fun σ => passAt tk σ) (sa_cons (se_sto (sv 1)) (sa_cons (se_sto (se_int)) (sa_last (se_sto (se_op op_sub oS_sub (se_callB (call_len' rfl) cS_len rfl T.b_len (by decide +kernel) (sa_last (sv 2))) (se_int))))))))) (ss_one (ss_raise rfl tk T.x_2 rfl rfl rfl)) (ss_nil)) (ss_cons (ss_if (st_cmp (op_eqA hr.units) oS_eq (se_callB (call_len' rfl) cS_len rfl T.b_len (by decide +kernel) (sa_last (sv 2))) (se_int) (nomark _)) (ss_one (ss_raise rfl tk T.x_4 rfl rfl rfl)) (ss_nil)) (ss_one (ss_ret (se_join rfl (se_str) (se_op op_addA oS_add (se_slice rfl (sv 2) (so_none) (so_some (sv 1))) (se_slice rfl (sv 2) (so_some (se_op op_addA oS_add (sv 1) (se_int))) (so_none))))))))))
abbrev s_first_fault : Stmt := top 30
theorem sc_first_fault : FnScope ["text", "place", "part"] ["text"] (defScope s_first_fault) := ⟨rfl, rfl, rfl, by decide +kernel, rfl, by decide +kernel, by decide +kernel⟩
theorem ok_first_fault (T : Txt K mg) : Fok P w K mg base (CK K) 4 "first_fault" ["text"] g_first_fault := by
  exact fokX (f := m_first_fault) (lv := 3) T.d_first_fault T.g_first_fault sc_first_fault rfl (fun _ _ _ _ _ _ us hl => match us, hl with | [_], _ => rfl) (fun cdv A outer s H E hr tk hpo => by
    exact ss_cons (ss_if (st_not (st_val (se_isi rfl rfl T.b_isinstance rfl T.b_str (by decide +kernel) (sv 0)))) (ss_one (ss_raise rfl tk T.x_3 rfl rfl rfl)) (ss_nil)) (ss_cons (ss_for (g := gTup K 2 (gNs [1, 2])) hpo rfl (si_enum rfl rfl T.b_enumerate (se_split (sv 0) (se_str))) (g_tup (k := ⟨K, CK K⟩) rfl rfl (gsN_cons (pg_name (i := 1) sc_first_fault.nd rfl (by first | exact Or.inl rfl | exact Or.inr rfl)) (gsN_cons (pg_name (i := 2) sc_first_fault.nd rfl (by first | exact Or.inl rfl | exact Or.inr rfl)) (gsN_nil)))) (tg_tup rfl) (ss_one (ss_if (st_cmp op_isA oS_is (sc (ok_item_in T) hr (by decide) rfl rfl (fun σ => passAt tk σ) (sa_last (se_sto (sv 2)))) (se_non) (nomark _)) (ss_one (ss_ret (sv 1))) (ss_nil)))) (ss_one (ss_ret (se_non)))))
abbrev s_parse_item : Stmt := top 21
theorem sc_parse_item : FnScope ["text", "found"] ["text"] (defScope s_parse_item) := ⟨rfl, rfl, rfl, by decide +kernel, rfl, by decide +kernel, by decide +kernel⟩
theorem ok_parse_item (T : Txt K mg) : Fok P w K mg base (CK K) 4 "parse_item" ["text"] g_parse_item := by
  exact fokX (f := m_parse_item) (lv := 3) T.d_parse_item T.g_parse_item sc_parse_item rfl (fun _ _ _ _ _ _ us hl => match us, hl with | [_], _ => rfl) (fun cdv A outer s H E hr tk hpo => by
    exact ss_cons (ss_set (i := 1) sc_parse_item.nd rfl (Or.inl rfl) (se_sto (se_if (st_val (se_isi rfl rfl T.b_isinstance rfl T.b_str (by decide +kernel) (sv 0))) (sc (ok_item_in T) hr (by decide) rfl rfl (fun σ => passAt tk σ) (sa_last (se_sto (sv 0)))) (se_non)))) (ss_cons (ss_if (st_cmp op_isA oS_is (sv 1) (se_non) (nomark _)) (ss_one (ss_raise rfl tk T.x_1 rfl rfl rfl)) (ss_nil)) (ss_one (ss_ret (sv 1)))))
abbrev s_L_call : Stmt := top 64
theorem sc_L_call : FnScope ["kind", "one", "two"] ["kind", "one", "two"] (defScope s_L_call) := ⟨rfl, rfl, rfl, by decide +kernel, rfl, by decide +kernel, by decide +kernel⟩
def m_L_call : M Fl := sSeq (sIf (tst (bin dEq (eVar 0) (eC (.int 0)))) (sRet (callV 1 g_item_numbers (aLast (sto (eVar 1))))) (sNx)) (sSeq (sIf (tst (bin dEq (eVar 0) (eC (.int 1)))) (sRet (callV 1 g_item_text (aLast (sto (eVar 1))))) (sNx)) (sSeq (sIf (tst (bin dEq (eVar 0) (eC (.int 2)))) (sRet (callV 2 g_with_item (aCons (sto (eC (.str "1"))) (aLast (sto (eVar 1)))))) (sNx)) (sSeq (sIf (tst (bin dEq (eVar 0) (eC (.int 3)))) (sRet (methM 1 2 g_M_mark (aLast (sto (eVar 2))))) (sNx)) (sSeq (sIf (tst (bin dEq (eVar 0) (eC (.int 4)))) (sRet (methM 1 2 g_M_clear (aLast (sto (eVar 2))))) (sNx)) (sSeq (sIf (tst (bin dEq (eVar 0) (eC (.int 5)))) (sRet (callV 2 g_without_item (aCons (sto (eVar 1)) (aLast (sto (eVar 2)))))) (sNx)) (sSeq (sIf (tst (bin dEq (eVar 0) (eC (.int 6)))) (sRet (callV 2 g_with_item (aCons (sto (eVar 1)) (aLast (sto (eVar 2)))))) (sNx)) (sRet (vIf (tst (bin dEq (eVar 0) (eC (.int 7)))) (callV 1 g_first_fault (aLast (sto (eVar 1)))) (callV 1 g_parse_item (aLast (sto (eVar 1))))))))))))
def g_L_call : En → Rs R := fnX m_L_call 0
theorem ok_L_call (T : Txt K mg) : Fok P w K mg base (CK K) 7 "_law_call" ["kind", "one", "two"] g_L_call := by
  exact fokX (f := m_L_call) (lv := 6) T.d_L_call T.g_L_call sc_L_call rfl (fun _ _ _ _ _ _ us hl => match us, hl with | [_, _, _], _ => rfl) (fun cdv A outer s H E hr tk hpo => by
    exact ss_cons (ss_if (st_cmp (op_eqA hr.units) oS_eq (sv 0) (se_int) (nomark _)) (ss_one (ss_ret (sc (ok_item_numbers T) hr (by decide) rfl rfl (fun σ => passAt tk σ) (sa_last (se_sto (sv 1)))))) (ss_nil)) (ss_cons (ss_if (st_cmp (op_eqA hr.units) oS_eq (sv 0) (se_int) (nomark _)) (ss_one (ss_ret (sc (ok_item_text T) hr (by decide) rfl rfl (fun σ => passAt tk σ) (sa_last (se_sto (sv 1)))))) (ss_nil)) (ss_cons (ss_if (st_cmp (op_eqA hr.units) oS_eq (sv 0) (se_int) (nomark _)) (ss_one (ss_ret (sc (ok_with_item T) hr (by decide) rfl rfl (fun σ => passAt tk σ) (sa_cons (se_sto (se_str)) (sa_last (se_sto (sv 1))))))) (ss_nil)) (ss_cons (ss_if (st_cmp (op_eqA hr.units) oS_eq (sv 0) (se_int) (nomark _)) (ss_one (ss_ret (smeth (ok_M_mark T) T.mM hr (by decide) rfl (pv 1) (fun σ => passAt tk σ) (sa_last (se_sto (sv 2)))))) (ss_nil)) (ss_cons (ss_if (st_cmp (op_eqA hr.units) oS_eq (sv 0) (se_int) (nomark _)) (ss_one (ss_ret (smeth (ok_M_clear T) T.mM hr (by decide) rfl (pv 1) (fun σ => passAt tk σ) (sa_last (se_sto (sv 2)))))) (ss_nil)) (ss_cons (ss_if (st_cmp (op_eqA hr.units) oS_eq (sv 0) (se_int) (nomark _)) (ss_one (ss_ret (sc (ok_without_item T) hr (by decide) rfl rfl (fun σ => passAt tk σ) (sa_cons (se_sto (sv 1)) (sa_last (se_sto (sv 2))))))) (ss_nil)) (ss_cons (ss_if (st_cmp (op_eqA hr.units) oS_eq (sv 0) (se_int) (nomark _)) (ss_one (ss_ret (sc (ok_with_item T) hr (by decide) rfl rfl (fun σ => passAt tk σ) (sa_cons (se_sto (sv 1)) (sa_last (se_sto (sv 2))))))) (ss_nil)) (ss_one (ss_ret (se_if (st_cmp (op_eqA hr.units) oS_eq (sv 0) (se_int) (nomark _)) (sc (ok_first_fault T) hr (by decide) rfl rfl (fun σ => passAt tk σ) (sa_last (se_sto (sv 1)))) (sc (ok_parse_item T) hr (by decide) rfl rfl (fun σ => passAt tk σ) (sa_last (se_sto (sv 1))))))))))))))
abbrev s_L_askedM : Stmt := top 65
theorem sc_L_askedM : FnScope ["group", "kind", "one", "two", "caught", "e"] ["group", "kind", "one", "two"] (defScope s_L_askedM) := ⟨rfl, rfl, rfl, by decide +kernel, rfl, by decide +kernel, by decide +kernel⟩
def m_L_askedM : M Fl := sSeq (sAsg 4 (eC .none)) (sSeq (sTry (sIf (tst (bin dEq (eVar 0) (eC (.int 1)))) (sDrop (callV 2 g_L_text_call (aCons (sto (eVar 1)) (aLast (sto (eVar 2)))))) (sDrop (alt (callIO 3 g_L_call (aCons (sto (eVar 1)) (aCons (eVar 2) (aLast (sto (eVar 3)))))) (callV 3 g_L_call (aCons (sto (eVar 1)) (aCons (sto (eVar 2)) (aLast (sto (eVar 3))))))))) 5 4) (sRet (vIf (nonM 4) (eC (.str "done")) (callIO 1 g_L_error (aLast (eVar 4))))))
def g_L_askedM : En → Rs R := fnP m_L_askedM 2
theorem ok_L_askedM (T : Txt K mg) : Fok P w K mg base (CK K) 17 "_law_asked" ["group", "kind", "one", "two"] g_L_askedM := by
  exact fokP (f := m_L_askedM) (lv := 16) T.d_L_askedM T.g_L_askedM sc_L_askedM rfl (fun _ _ _ _ _ _ us hl => match us, hl with | [_, _, _, _], _ => rfl) (fun cdv A outer s H E hr => by
    exact ss_cons (ss_set (i := 4) sc_L_askedM.nd rfl (Or.inl rfl) (se_non)) (ss_cons (ss_try (i := 5) (j := 4) rfl rfl rfl sc_L_askedM.nd rfl rfl rfl (Or.inl rfl) ⟨rfl, by decide, .inl T.xr⟩ T.xm (fun W pn xe tk hpo => ss_one (ss_if (st_cmp (op_eqA hr.units) oS_eq (sv 0) (se_int) (nomark _)) (ss_one (ss_drop (sc (ok_L_text_call T) hr (by decide) rfl rfl (fun σ => passAt tk σ) (sa_cons (se_sto (sv 1)) (sa_last (se_sto (sv 2))))))) (ss_one (ss_drop (se_alt (scio (ok_L_call T) hr (by decide) rfl rfl (fun σ => passAt tk σ) (sa_cons (se_sto (sv 1)) (sa_cons (sv 2) (sa_last (se_sto (sv 3)))))) (sc (ok_L_call T) hr (by decide) rfl rfl (fun σ => passAt tk σ) (sa_cons (se_sto (sv 1)) (sa_cons (se_sto (sv 2)) (sa_last (se_sto (sv 3)))))))))))) (ss_one (ss_ret (se_if (st_isN (pv 4)) (se_str) (scio (ok_L_error T) hr (by decide) rfl rfl passS (sa_last (sv 4))))))))
abbrev s_is_text : Stmt := top 27
theorem sc_is_text : FnScope ["text"] ["text"] (defScope s_is_text) := ⟨rfl, rfl, rfl, by decide +kernel, rfl, by decide +kernel, by decide +kernel⟩
theorem ok_is_text (T : Txt K mg) : Fok P w K mg base (CK K) 5 "is_text" ["text"] g_is_text := by
  exact fokP (f := m_is_text) (lv := 4) T.d_is_text T.g_is_text sc_is_text rfl (fun _ _ _ _ _ _ us hl => match us, hl with | [_], _ => rfl) (fun cdv A outer s H E hr => by
    exact ss_one (ss_ret (se_cmp op_isnotA oS_isnot (sc (ok_items_in T) hr (by decide) rfl rfl passS (sa_last (se_sto (sv 0)))) (se_non) (nomark _))))
abbrev s_law : Stmt := top 67
theorem sc_law : FnScope ["script", "draws", "shown", "bad", "good", "item", "text", "told", "k", "place"] ["script"] (defScope s_law) := ⟨rfl, rfl, rfl, by decide +kernel, rfl, by decide +kernel, by decide +kernel⟩
def m_law : M Fl := sSeq (sAsg 2 (newMk)) (sSeq (sFor (iSq (mkLst (aCons (sto (eC .none)) (aCons (sto (eC (.int 5))) (aCons (sto (mkTup (aNil))) (aCons (sto (mkTup (aCons (sto (eC (.int 1))) (aLast (sto (eC (.int 2))))))) (aCons (sto (mkLst (aCons (sto (eC (.int 1))) (aCons (sto (eC (.int 3))) (aLast (sto (eC (.int 1)))))))) (aCons (sto (mkTup (aCons (sto (eC (.int 0))) (aCons (sto (eC (.int 1))) (aLast (sto (eC (.int 1)))))))) (aCons (sto (mkTup (aCons (sto (eC (.int 1))) (aCons (sto (eC (.int 11))) (aLast (sto (eC (.int 1)))))))) (aCons (sto (mkTup (aCons (sto (eC (.int 3))) (aCons (sto (eC (.int 1))) (aLast (sto (eC (.int 1)))))))) (aCons (sto (mkTup (aCons (sto (eC (.int 1))) (aCons (sto (eC (.int 1))) (aLast (sto (eC (.int 2)))))))) (aCons (sto (mkTup (aCons (sto (eC (.int 1))) (aCons (sto (eC (.int 4))) (aLast (sto (eC (.int 2)))))))) (aCons (sto (mkTup (aCons (sto (eC (.int 1))) (aCons (sto (eC (.int 3))) (aLast (sto (eC (.int 0)))))))) (aCons (sto (mkTup (aCons (sto (eC (.bool true))) (aCons (sto (eC (.int 1))) (aLast (sto (eC (.int 1)))))))) (aCons (sto (mkTup (aCons (sto (eC (.int 1))) (aCons (sto (eC (.int 3))) (aLast (sto (eC (.bool true)))))))) (aCons (sto (mkTup (aCons (sto (eC (.str "1"))) (aCons (sto (eC (.int 3))) (aLast (sto (eC (.int 1)))))))) (aCons (sto (mkTup (aCons (sto (eC (.int 1))) (aCons (sto (eC (.int 3))) (aLast (sto (eC .none))))))) (aCons (sto (mkTup (aCons (sto (eC (.int 1))) (aCons (sto (eC (.int 10))) (aLast (sto (eC (.int 10)))))))) (aLast (sto (mkTup (aCons (sto (eC (.int 1))) (aCons (sto (eC (.int 2))) (aCons (sto (eC (.int 1))) (aLast (sto (eC (.int 1)))))))))))))))))))))))))))) (tgN 3) (sSeq (sIf (mOr (tst (bin dIsNot (callV 1 g_is_item (aLast (sto (eVar 3)))) (eC (.bool false)))) (tst (bin dNe (lcM (iSq (mkTup (aCons (sto (eC (.int 0))) (aCons (sto (eC (.int 1))) (aLast (sto (eC (.int 2)))))))) (tgN 8) (M.ret true) (callV 4 g_L_askedM (aCons (sto (eC (.int 2))) (aCons (sto (eVar 8)) (aCons (sto (eVar 3)) (aLast (sto (eC (.int 0)))))))) [8]) (bin dMulA (mkLst (aLast (sto (eC (.str "item"))))) (eC (.int 3)))))) (sRet (eC (.bool false))) (sNx)) (sIf (mOr (tst (bin dNe (lcM (iSq (mkTup (aCons (sto (eC (.int 3))) (aLast (sto (eC (.int 4))))))) (tgN 8) (M.ret true) (callIO 4 g_L_askedM (aCons (sto (eC (.int 2))) (aCons (sto (eVar 8)) (aCons (eVar 2) (aLast (sto (eVar 3))))))) [8]) (bin dMulA (mkLst (aLast (sto (eC (.str "item"))))) (eC (.int 2))))) (mOr (tst (bin dNe (callV 4 g_L_askedM (aCons (sto (eC (.int 2))) (aCons (sto (eC (.int 6))) (aCons (sto (eC (.str "1"))) (aLast (sto (eVar 3))))))) (eC (.str "item")))) (tst (bin dNe (callV 4 g_L_askedM (aCons (sto (eC (.int 2))) (aCons (sto (eC (.int 6))) (aCons (sto (eC .none)) (aLast (sto (eVar 3))))))) (eC (.str "text")))))) (sRet (eC (.bool false))) (sNx)))) (sSeq (sFor (iSq (mkLst (aCons (sto (mkTup (aCons (sto (eC (.int 1))) (aCons (sto (eC (.int 1))) (aLast (sto (eC (.int 1)))))))) (aCons (sto (mkTup (aCons (sto (eC (.int 1))) (aCons (sto (eC (.int 10))) (aLast (sto (eC (.int 9)))))))) (aCons (sto (mkTup (aCons (sto (eC (.int 1))) (aCons (sto (eC (.int 10))) (aLast (sto (eC (.int 1)))))))) (aLast (sto (mkTup (aCons (sto (eC (.int 10))) (aCons (sto (eC (.int 10))) (aLast (sto (eC (.int 1)))))))))))))) (tgN 4) (sIf (mOr (tst (bin dIsNot (callV 1 g_is_item (aLast (sto (eVar 4)))) (eC (.bool true)))) (tst (bin dNe (lcM (iSq (mkTup (aCons (sto (eC (.int 0))) (aCons (sto (eC (.int 1))) (aLast (sto (eC (.int 2)))))))) (tgN 8) (M.ret true) (callV 4 g_L_askedM (aCons (sto (eC (.int 2))) (aCons (sto (eVar 8)) (aCons (sto (eVar 4)) (aLast (sto (eC (.int 0)))))))) [8]) (bin dMulA (mkLst (aLast (sto (eC (.str "done"))))) (eC (.int 3)))))) (sRet (eC (.bool false))) (sNx))) (sSeq (sFor (iSq (mkLst (aCons (sto (eC .none)) (aCons (sto (eC (.int 5))) (aCons (sto (eC (.str ""))) (aCons (sto (eC (.str ","))) (aCons (sto (eC (.str "1,"))) (aCons (sto (eC (.str ",1"))) (aCons (sto (eC (.str "1,,2"))) (aCons (sto (eC (.str "0"))) (aCons (sto (eC (.str "11"))) (aCons (sto (eC (.str "1-1"))) (aCons (sto (eC (.str "2-1"))) (aCons (sto (eC (.str "1-3/1"))) (aCons (sto (eC (.str "1-4/2"))) (aCons (sto (eC (.str "1 ,2"))) (aCons (sto (eC (.str "a"))) (aCons (sto (mkLst (aLast (sto (eC (.str "1")))))) (aCons (sto (eC (.str "1;2"))) (aCons (sto (eC (.str "1-"))) (aCons (sto (eC (.str "-1"))) (aLast (sto (eC (.str "1/2"))))))))))))))))))))))))) (tgN 3) (sIf (mOr (tst (bin dIsNot (callV 1 g_is_text (aLast (sto (eVar 3)))) (eC (.bool false)))) (mOr (tst (bin dNe (lcM (iRg rg1 (aLast (eC (.int 14)))) (tgN 8) (M.ret true) (callV 4 g_L_askedM (aCons (sto (eC (.int 1))) (aCons (sto (eVar 8)) (aCons (sto (eVar 3)) (aLast (sto (eC (.int 0)))))))) [8]) (bin dMulA (mkLst (aLast (sto (eC (.str "text"))))) (eC (.int 14))))) (tst (bin dNe (callV 4 g_L_askedM (aCons (sto (eC (.int 2))) (aCons (sto (eC (.int 5))) (aCons (sto (eVar 3)) (aLast (sto (eC .none))))))) (eC (.str "text")))))) (sRet (eC (.bool false))) (sNx))) (sSeq (sAsg 5 (sto (callIO 2 g_L_pick (aCons (eVar 1) (aLast (sto (callV 0 g_L_items aNil))))))) (sSeq (sAsg 6 (sto (bin dAdd (callV 1 g_L_word (aLast (sto (eVar 5)))) (eC (.str ",3"))))) (sSeq (sIf (mOr (tst (bin dIsNot (callV 1 g_is_text (aLast (sto (eVar 6)))) (eC (.bool true)))) (mOr (tst (bin dNe (lcM (iRg rg1 (aLast (eC (.int 14)))) (tgN 8) (M.ret true) (callV 4 g_L_askedM (aCons (sto (eC (.int 1))) (aCons (sto (eVar 8)) (aCons (sto (eVar 6)) (aLast (sto (eC (.int 0)))))))) [8]) (bin dMulA (mkLst (aLast (sto (eC (.str "done"))))) (eC (.int 14))))) (tst (bin dNe (lcM (iSq (mkTup (aCons (sto (eC .none)) (aCons (sto (eC (.int 5))) (aCons (sto (mkLst (aLast (sto (eC (.str "1")))))) (aLast (sto (eC (.str "x"))))))))) (tgN 3) (M.ret true) (callV 4 g_L_askedM (aCons (sto (eC (.int 2))) (aCons (sto (eC (.int 7))) (aCons (sto (eVar 3)) (aLast (sto (eC (.int 0)))))))) [3]) (bin dAdd (bin dMulA (mkLst (aLast (sto (eC (.str "text"))))) (eC (.int 3))) (mkLst (aLast (sto (eC (.str "done")))))))))) (sRet (eC (.bool false))) (sNx)) (sSeq (sAsg 7 (sto (lcM (iSq (mkTup (aCons (sto (eC .none)) (aCons (sto (eC (.int 2))) (aCons (sto (bin dSub (eC (.int 0)) (eC (.int 1)))) (aCons (sto (eC (.bool true))) (aCons (sto (eC (.str "0"))) (aCons (sto (eC (.int 0))) (aLast (sto (eC (.int 1)))))))))))) (tgN 9) (M.ret true) (callV 4 g_L_askedM (aCons (sto (eC (.int 2))) (aCons (sto (eC (.int 5))) (aCons (sto (eVar 6)) (aLast (sto (eVar 9))))))) [9]))) (sSeq (sIf (mOr (tst (bin dNe (eVar 7) (bin dAdd (bin dMulA (mkLst (aLast (sto (eC (.str "number"))))) (eC (.int 5))) (bin dMulA (mkLst (aLast (sto (eC (.str "done"))))) (eC (.int 2)))))) (tst (bin dNe (callV 4 g_L_askedM (aCons (sto (eC (.int 2))) (aCons (sto (eC (.int 5))) (aCons (sto (eC (.str "3"))) (aLast (sto (eC (.int 0)))))))) (eC (.str "none"))))) (sRet (eC (.bool false))) (sNx)) (sRet (callIO 2 g_L_markerT (aCons (eVar 2) (aLast (sto (eVar 5))))))))))))))
theorem ok_law (T : Txt K mg) (ht : LawTrue m_law 8) : ∃ fd, (∀ (s : Shared) (v : Value), BindsTo s fd ⟨[v], []⟩ [("script", v)]) ∧ ∀ base : Heap, FnOk P w K mg base L2.CX0 30 (He.ga K "law") fd ["script"] (spLaw K) := by
  obtain ⟨fd, F⟩ := T.d_law
  skip
  refine ⟨fd, fun s v => FunD.bindsA (ps := ["script"]) F (fun _ _ _ _ _ _ us hl => match us, hl with | [_], _ => rfl) s [v] rfl, fun base => ?_⟩
  obtain ⟨fs, q1, q2, q3, q4⟩ := ok_L_start (P := P) (w := w) (base := base) T
  refine F.ok sc_law (fun vs H Q E h => ?_) (fun cdv A outer s H vs Q E hr h => ⟨_, PSs.nox (pss_cons (ps_set (i := 1) sc_law.nd rfl (Or.inl rfl) (pe_call (E := E0) q1 (hr.mono (by decide)) rfl q4 q3 q2 .nil passL (pa_cons (pv 0) pa_nil))) ?_), law_enter (C := CK K) rfl ht h⟩)
  · obtain ⟨a, ns, rfl, _⟩ := h; rfl
  · exact ss_cons (ss_set (i := 2) sc_law.nd rfl (Or.inr rfl) (se_newMk (ok_M_init T) hr (by decide) rfl T.gM)) (ss_cons (ss_for (g := gName 3) PassesOwn.never rfl (si_seq rfl (se_lst (sa_cons (se_sto (se_non)) (sa_cons (se_sto (se_int)) (sa_cons (se_sto (se_tup (sa_nil))) (sa_cons (se_sto (se_tup (sa_cons (se_sto (se_int)) (sa_last (se_sto (se_int)))))) (sa_cons (se_sto (se_lst (sa_cons (se_sto (se_int)) (sa_cons (se_sto (se_int)) (sa_last (se_sto (se_int))))))) (sa_cons (se_sto (se_tup (sa_cons (se_sto (se_int)) (sa_cons (se_sto (se_int)) (sa_last (se_sto (se_int))))))) (sa_cons (se_sto (se_tup (sa_cons (se_sto (se_int)) (sa_cons (se_sto (se_int)) (sa_last (se_sto (se_int))))))) (sa_cons (se_sto (se_tup (sa_cons (se_sto (se_int)) (sa_cons (se_sto (se_int)) (sa_last (se_sto (se_int))))))) (sa_cons (se_sto (se_tup (sa_cons (se_sto (se_int)) (sa_cons (se_sto (se_int)) (sa_last (se_sto (se_int))))))) (sa_cons (se_sto (se_tup (sa_cons (se_sto (se_int)) (sa_cons (se_sto (se_int)) (sa_last (se_sto (se_int))))))) (sa_cons (se_sto (se_tup (sa_cons (se_sto (se_int)) (sa_cons (se_sto (se_int)) (sa_last (se_sto (se_int))))))) (sa_cons (se_sto (se_tup (sa_cons (se_sto (se_bl)) (sa_cons (se_sto (se_int)) (sa_last (se_sto (se_int))))))) (sa_cons (se_sto (se_tup (sa_cons (se_sto (se_int)) (sa_cons (se_sto (se_int)) (sa_last (se_sto (se_bl))))))) (sa_cons (se_sto (se_tup (sa_cons (se_sto (se_str)) (sa_cons (se_sto (se_int)) (sa_last (se_sto (se_int))))))) (sa_cons (se_sto (se_tup (sa_cons (se_sto (se_int)) (sa_cons (se_sto (se_int)) (sa_last (se_sto (se_non))))))) (sa_cons (se_sto (se_tup (sa_cons (se_sto (se_int)) (sa_cons (se_sto (se_int)) (sa_last (se_sto (se_int))))))) (sa_last (se_sto (se_tup (sa_cons (se_sto (se_int)) (sa_cons (se_sto (se_int)) (sa_cons (se_sto (se_int)) (sa_last (se_sto (se_int))))))))))))))))))))))))))) (pg_name (i := 3) sc_law.nd rfl (by first | exact Or.inl rfl | exact Or.inr rfl)) (tg_name) (ss_cons (ss_if (PW.pt (sw_or (st_cmp op_isnotA oS_isnot (sc (ok_is_item T) hr (by decide) rfl rfl passS (sa_last (se_sto (sv 3)))) (se_bl) (nomark _)) (sw_or1 (st_cmp (op_neA hr.units) oS_ne (se_lc (own := [("k", 8)]) (g := gName 8) rfl rfl sc_law.nd (si_seq rfl (se_tup (sa_cons (se_sto (se_int)) (sa_cons (se_sto (se_int)) (sa_last (se_sto (se_int))))))) (blkOk_by (by kernel_rfl)) (fun _ _ _ _ _ => pg_name (i := 8) sc_law.nd rfl (Or.inl rfl)) (tg_name) (fun _ _ _ _ _ => sts_nil) (fun _ _ _ _ _ => sc (ok_L_askedM T) hr (by decide) rfl rfl passS (sa_cons (se_sto (se_int)) (sa_cons (se_sto (sv 8)) (sa_cons (se_sto (sv 3)) (sa_last (se_sto (se_int)))))))) (se_op op_mulA oS_mulA (se_lst (sa_last (se_sto (se_str)))) (se_int)) (nomark _))))) (ss_one (ss_ret (se_bl))) (ss_nil)) (ss_one (ss_if (PW.pt (sw_or (st_cmp (op_neA hr.units) oS_ne (se_lc (own := [("k", 8)]) (g := gName 8) rfl rfl sc_law.nd (si_seq rfl (se_tup (sa_cons (se_sto (se_int)) (sa_last (se_sto (se_int)))))) (blkOk_by (by kernel_rfl)) (fun _ _ _ _ _ => pg_name (i := 8) sc_law.nd rfl (Or.inl rfl)) (tg_name) (fun _ _ _ _ _ => sts_nil) (fun _ _ _ _ _ => scio (ok_L_askedM T) hr (by decide) rfl rfl passS (sa_cons (se_sto (se_int)) (sa_cons (se_sto (sv 8)) (sa_cons (sv 2) (sa_last (se_sto (sv 3)))))))) (se_op op_mulA oS_mulA (se_lst (sa_last (se_sto (se_str)))) (se_int)) (nomark _)) (sw_or (st_cmp (op_neA hr.units) oS_ne (sc (ok_L_askedM T) hr (by decide) rfl rfl passS (sa_cons (se_sto (se_int)) (sa_cons (se_sto (se_int)) (sa_cons (se_sto (se_str)) (sa_last (se_sto (sv 3))))))) (se_str) (nomark _)) (sw_or1 (st_cmp (op_neA hr.units) oS_ne (sc (ok_L_askedM T) hr (by decide) rfl rfl passS (sa_cons (se_sto (se_int)) (sa_cons (se_sto (se_int)) (sa_cons (se_sto (se_non)) (sa_last (se_sto (sv 3))))))) (se_str) (nomark _)))))) (ss_one (ss_ret (se_bl))) (ss_nil))))) (ss_cons (ss_for (g := gName 4) PassesOwn.never rfl (si_seq rfl (se_lst (sa_cons (se_sto (se_tup (sa_cons (se_sto (se_int)) (sa_cons (se_sto (se_int)) (sa_last (se_sto (se_int))))))) (sa_cons (se_sto (se_tup (sa_cons (se_sto (se_int)) (sa_cons (se_sto (se_int)) (sa_last (se_sto (se_int))))))) (sa_cons (se_sto (se_tup (sa_cons (se_sto (se_int)) (sa_cons (se_sto (se_int)) (sa_last (se_sto (se_int))))))) (sa_last (se_sto (se_tup (sa_cons (se_sto (se_int)) (sa_cons (se_sto (se_int)) (sa_last (se_sto (se_int))))))))))))) (pg_name (i := 4) sc_law.nd rfl (by first | exact Or.inl rfl | exact Or.inr rfl)) (tg_name) (ss_one (ss_if (PW.pt (sw_or (st_cmp op_isnotA oS_isnot (sc (ok_is_item T) hr (by decide) rfl rfl passS (sa_last (se_sto (sv 4)))) (se_bl) (nomark _)) (sw_or1 (st_cmp (op_neA hr.units) oS_ne (se_lc (own := [("k", 8)]) (g := gName 8) rfl rfl sc_law.nd (si_seq rfl (se_tup (sa_cons (se_sto (se_int)) (sa_cons (se_sto (se_int)) (sa_last (se_sto (se_int))))))) (blkOk_by (by kernel_rfl)) (fun _ _ _ _ _ => pg_name (i := 8) sc_law.nd rfl (Or.inl rfl)) (tg_name) (fun _ _ _ _ _ => sts_nil) (fun _ _ _ _ _ => sc (ok_L_askedM T) hr (by decide) rfl rfl passS (sa_cons (se_sto (se_int)) (sa_cons (se_sto (sv 8)) (sa_cons (se_sto (sv 4)) (sa_last (se_sto (se_int)))))))) (se_op op_mulA oS_mulA (se_lst (sa_last (se_sto (se_str)))) (se_int)) (nomark _))))) (ss_one (ss_ret (se_bl))) (ss_nil)))) (ss_cons (ss_for (g := gName 3) PassesOwn.never rfl (si_seq rfl (se_lst (sa_cons (se_sto (se_non)) (sa_cons (se_sto (se_int)) (sa_cons (se_sto (se_str)) (sa_cons (se_sto (se_str)) (sa_cons (se_sto (se_str)) (sa_cons (se_sto (se_str)) (sa_cons (se_sto (se_str)) (sa_cons (se_sto (se_str)) (sa_cons (se_sto (se_str)) (sa_cons (se_sto (se_str)) (sa_cons (se_sto (se_str)) (sa_cons (se_sto (se_str)) (sa_cons (se_sto (se_str)) (sa_cons (se_sto (se_str)) (sa_cons (se_sto (se_str)) (sa_cons (se_sto (se_lst (sa_last (se_sto (se_str))))) (sa_cons (se_sto (se_str)) (sa_cons (se_sto (se_str)) (sa_cons (se_sto (se_str)) (sa_last (se_sto (se_str)))))))))))))))))))))))) (pg_name (i := 3) sc_law.nd rfl (by first | exact Or.inl rfl | exact Or.inr rfl)) (tg_name) (ss_one (ss_if (PW.pt (sw_or (st_cmp op_isnotA oS_isnot (sc (ok_is_text T) hr (by decide) rfl rfl passS (sa_last (se_sto (sv 3)))) (se_bl) (nomark _)) (sw_or (st_cmp (op_neA hr.units) oS_ne (se_lc (own := [("k", 8)]) (g := gName 8) rfl rfl sc_law.nd (si_range1 rfl T.b_range (sa_last (se_int))) (blkOk_by (by kernel_rfl)) (fun _ _ _ _ _ => pg_name (i := 8) sc_law.nd rfl (Or.inl rfl)) (tg_name) (fun _ _ _ _ _ => sts_nil) (fun _ _ _ _ _ => sc (ok_L_askedM T) hr (by decide) rfl rfl passS (sa_cons (se_sto (se_int)) (sa_cons (se_sto (sv 8)) (sa_cons (se_sto (sv 3)) (sa_last (se_sto (se_int)))))))) (se_op op_mulA oS_mulA (se_lst (sa_last (se_sto (se_str)))) (se_int)) (nomark _)) (sw_or1 (st_cmp (op_neA hr.units) oS_ne (sc (ok_L_askedM T) hr (by decide) rfl rfl passS (sa_cons (se_sto (se_int)) (sa_cons (se_sto (se_int)) (sa_cons (se_sto (sv 3)) (sa_last (se_sto (se_non))))))) (se_str) (nomark _)))))) (ss_one (ss_ret (se_bl))) (ss_nil)))) (ss_cons (ss_set (i := 5) sc_law.nd rfl (Or.inl rfl) (se_sto (scio (ok_L_pick T) hr (by decide) rfl rfl passS (sa_cons (sv 1) (sa_last (se_sto (sc0 (ok_L_items T) hr (by decide) rfl rfl passS))))))) (ss_cons (ss_set (i := 6) sc_law.nd rfl (Or.inr rfl) (se_sto (se_op op_addA oS_add (sc (ok_L_word T) hr (by decide) rfl rfl passS (sa_last (se_sto (sv 5)))) (se_str)))) (ss_cons (ss_if (PW.pt (sw_or (st_cmp op_isnotA oS_isnot (sc (ok_is_text T) hr (by decide) rfl rfl passS (sa_last (se_sto (sv 6)))) (se_bl) (nomark _)) (sw_or (st_cmp (op_neA hr.units) oS_ne (se_lc (own := [("k", 8)]) (g := gName 8) rfl rfl sc_law.nd (si_range1 rfl T.b_range (sa_last (se_int))) (blkOk_by (by kernel_rfl)) (fun _ _ _ _ _ => pg_name (i := 8) sc_law.nd rfl (Or.inl rfl)) (tg_name) (fun _ _ _ _ _ => sts_nil) (fun _ _ _ _ _ => sc (ok_L_askedM T) hr (by decide) rfl rfl passS (sa_cons (se_sto (se_int)) (sa_cons (se_sto (sv 8)) (sa_cons (se_sto (sv 6)) (sa_last (se_sto (se_int)))))))) (se_op op_mulA oS_mulA (se_lst (sa_last (se_sto (se_str)))) (se_int)) (nomark _)) (sw_or1 (st_cmp (op_neA hr.units) oS_ne (se_lc (own := [("bad", 3)]) (g := gName 3) rfl rfl sc_law.nd (si_seq rfl (se_tup (sa_cons (se_sto (se_non)) (sa_cons (se_sto (se_int)) (sa_cons (se_sto (se_lst (sa_last (se_sto (se_str))))) (sa_last (se_sto (se_str)))))))) (blkOk_by (by kernel_rfl)) (fun _ _ _ _ _ => pg_name (i := 3) sc_law.nd rfl (Or.inl rfl)) (tg_name) (fun _ _ _ _ _ => sts_nil) (fun _ _ _ _ _ => sc (ok_L_askedM T) hr (by decide) rfl rfl passS (sa_cons (se_sto (se_int)) (sa_cons (se_sto (se_int)) (sa_cons (se_sto (sv 3)) (sa_last (se_sto (se_int)))))))) (se_op op_addA oS_add (se_op op_mulA oS_mulA (se_lst (sa_last (se_sto (se_str)))) (se_int)) (se_lst (sa_last (se_sto (se_str))))) (nomark _)))))) (ss_one (ss_ret (se_bl))) (ss_nil)) (ss_cons (ss_frz (ss_setLc (i := 7) (own := [("place", 9)]) (g := gName 9) rfl rfl sc_law.nd rfl rfl (sw_true rfl rfl rfl (by decide +kernel)) (si_seq rfl (se_tup (sa_cons (se_sto (se_non)) (sa_cons (se_sto (se_int)) (sa_cons (se_sto (se_op op_sub oS_sub (se_int) (se_int))) (sa_cons (se_sto (se_bl)) (sa_cons (se_sto (se_str)) (sa_cons (se_sto (se_int)) (sa_last (se_sto (se_int))))))))))) (blkOk_by (by kernel_rfl)) (fun _ _ _ _ _ => pg_name (i := 9) sc_law.nd rfl (Or.inl rfl)) (tg_name) (fun _ _ _ _ _ => sts_nil) (fun _ _ _ _ _ => sc (ok_L_askedM T) hr (by decide) rfl rfl passS (sa_cons (se_sto (se_int)) (sa_cons (se_sto (se_int)) (sa_cons (se_sto (sv 6)) (sa_last (se_sto (sv 9))))))))) (ss_cons (ss_if (PW.pt (sw_or (st_cmp (op_neA hr.units) oS_ne (sv 7) (se_op op_addA oS_add (se_op op_mulA oS_mulA (se_lst (sa_last (se_sto (se_str)))) (se_int)) (se_op op_mulA oS_mulA (se_lst (sa_last (se_sto (se_str)))) (se_int))) (nomark _)) (sw_or1 (st_cmp (op_neA hr.units) oS_ne (sc (ok_L_askedM T) hr (by decide) rfl rfl passS (sa_cons (se_sto (se_int)) (sa_cons (se_sto (se_int)) (sa_cons (se_sto (se_str)) (sa_last (se_sto (se_int))))))) (se_str) (nomark _))))) (ss_one (ss_ret (se_bl))) (ss_nil)) (ss_one (ss_ret (scio (ok_L_markerT T) hr (by decide) rfl rfl passS (sa_cons (sv 2) (sa_last (se_sto (sv 5)))))))))))))))
end
end Rt
namespace Rt
open PySem PySem.Spec PyProof.Rows L2
/-! ### the head -/
def ddf (x : Str) (st : Stmt) : He.DefD := ⟨(x, none), x, x, defArgs st, defBody st, defScope st, [], []⟩
def ddm (x q : Str) (st : Stmt) : He.DefD := ⟨("Marker", some x), x, q, defArgs st, defBody st, defScope st, [], []⟩
def fnL : List He.DefD := [ddm "__init__" "Marker.__init__" (met 0), ddf "_law_pick" (top 59), ddm "undo" "Marker.undo" (met 6), ddf "_law_error" (top 60), ddm "marked" "Marker.marked" (met 3), ddf "is_int" (top 8), ddf "is_item" (top 11), ddf "check_item" (top 12), ddf "numbers_of" (top 15), ddm "clear" "Marker.clear" (met 2), ddm "mark" "Marker.mark" (met 1), ddm "__len__" "Marker.__len__" (met 7), ddf "text_of" (top 17), ddf "runs_of" (top 35), ddf "plain_of" (top 36), ddm "text" "Marker.text" (met 4), ddf "least_from" (top 41), ddf "covers_from" (top 43), ddf "within_of" (top 22), ddf "weighed" (top 40), ddf "covers_of" (top 44), ddm "short" "Marker.short" (met 5), ddf "item_numbers" (top 16), ddf "_law_marker" (top 66), ddf "_law_items" (top 61), ddf "_law_word" (top 62), ddf "is_set" (top 9), ddf "check_set" (top 10), ddf "number_in" (top 19), ddf "item_in" (top 20), ddf "items_in" (top 24), ddf "check_text" (top 26), ddf "set_of" (top 25), ddf "contains" (top 49), ddf "parse" (top 28), ddf "items" (top 29), ddf "needless" (top 32), ddf "covered_times" (top 33), ddf "tidy" (top 37), ddf "is_plain" (top 38), ddf "length_of" (top 42), ddf "is_shortest" (top 45), ddf "shorter_by" (top 46), ddf "pruned" (top 53), ddf "mean_same" (top 31), ddf "join_texts" (top 48), ddf "_law_text_call" (top 63), ddf "item_text" (top 18), ddf "with_item" (top 51), ddf "without_item" (top 52), ddf "first_fault" (top 30), ddf "parse_item" (top 21), ddf "_law_call" (top 64), ddf "_law_asked" (top 65), ddf "is_text" (top 27), ddf "_law_draw" (top 58), ddf "_law_start" (top 57), ddf "law" (top 67)]
def faL : List He.Fa := [.mkr "Marker", .glo "_law_pick", .meth "Marker" "undo", .glo "_law_error", .meth "Marker" "marked", .glo "is_int", .glo "is_item", .glo "check_item", .glo "numbers_of", .meth "Marker" "clear", .meth "Marker" "mark", .meth "Marker" "__len__", .glo "text_of", .glo "runs_of", .glo "plain_of", .meth "Marker" "text", .glo "least_from", .glo "covers_from", .glo "within_of", .glo "weighed", .glo "covers_of", .meth "Marker" "short", .glo "item_numbers", .glo "_law_marker", .glo "_law_items", .glo "_law_word", .glo "is_set", .glo "check_set", .glo "number_in", .glo "item_in", .glo "items_in", .glo "check_text", .glo "set_of", .glo "contains", .glo "parse", .glo "items", .glo "needless", .glo "covered_times", .glo "tidy", .glo "is_plain", .glo "length_of", .glo "is_shortest", .glo "shorter_by", .glo "pruned", .glo "mean_same", .glo "join_texts", .glo "_law_text_call", .glo "item_text", .glo "with_item", .glo "without_item", .glo "first_fault", .glo "parse_item", .glo "_law_call", .glo "_law_asked", .glo "is_text", .glo "_law_draw", .glo "_law_start", .glo "law", .free "ValueError", .free "all", .free "bool", .free "enumerate", .free "int", .free "isinstance", .free "len", .free "list", .free "range", .free "set", .free "sorted", .free "str", .free "tuple", .free "zip", .int "MOST" 10, .str "DIGITS" "0123456789", .glo "BadSet", .exc "BadSet", .glo "BadItem", .exc "BadItem", .glo "BadNumber", .exc "BadNumber", .glo "BadText", .exc "BadText", .glo "NotFound", .exc "NotFound", .glo "RangeError", .glo "Marker", .cls "Marker", .noat "Marker" "now", .noat "Marker" "past"]
abbrev Rw : PySem.W.OpenRow := PySem.W.OpenLaw.row PySem.Challenge.rw_rangetexts_k14_more_errors
abbrev hkL : PySem.W.Hook := He.hookX 4 faL fnL [] [] excAll
def obL (s : PySem.W.SharedT) : He.AlX := He.obsX 4 faL fnL [] [] excAll (HandSHeadRun.getT s)
theorem obL_eq (s : PySem.W.SharedT) : obL s = hkL.obs s.abs := He.obsX_eq (HandSHeadRun.getT_eq s)
def loose0 : List Str := ["RangeError", "BadSet", "BadItem", "BadNumber", "BadText", "NotFound", "MOST", "is_int", "is_set", "check_set", "is_item", "check_item", "DIGITS", "numbers_of", "item_numbers", "text_of", "item_text", "number_in", "item_in", "parse_item", "within_of", "items_in", "set_of", "check_text", "is_text", "parse", "items", "first_fault", "mean_same", "needless"]
def loose1 : List Str := ["covered_times", "runs_of", "plain_of", "tidy", "is_plain", "weighed", "least_from", "length_of", "covers_from", "covers_of", "is_shortest", "shorter_by", "join_texts", "contains", "with_item", "without_item", "pruned", "Marker", "_law_start", "_law_draw", "_law_pick", "_law_error", "_law_items", "_law_word", "_law_text_call", "_law_call", "_law_asked", "_law_marker"]
def looseL : List Str := loose0 ++ loose1
theorem runL (w : World) : HandSHeadRun.RunEq Rw (PySem.W.view Rw.prog [67]) hkL obL 20000 looseL w := by
  intro os
  kernel_rfl
theorem txt_of {K : PySem.W.Frag} {h : Heap} {mg : Str → Option Value} (X : K.In h) (G : h.Ns mainGlobals mg) (c : He.SaysD faL fnL K) (xa : excAll K = true) : Txt K mg where
  d_M_init := c.def_ 0 (d := ddm "__init__" "Marker.__init__" (met 0)) rfl
  mkr := He.mkr_ok (c.fact 0 (f := .mkr "Marker") rfl)
  g_L_pick := He.glo_ok X G (c.fact 1 (f := .glo "_law_pick") rfl)
  d_L_pick := c.def_ 1 (d := ddf "_law_pick" (top 59)) rfl
  d_M_undo := c.def_ 2 (d := ddm "undo" "Marker.undo" (met 6)) rfl
  mt_undo := He.meth_ok (c.fact 2 (f := .meth "Marker" "undo") rfl)
  g_L_error := He.glo_ok X G (c.fact 3 (f := .glo "_law_error") rfl)
  d_L_error := c.def_ 3 (d := ddf "_law_error" (top 60)) rfl
  d_M_marked := c.def_ 4 (d := ddm "marked" "Marker.marked" (met 3)) rfl
  mt_marked := He.meth_ok (c.fact 4 (f := .meth "Marker" "marked") rfl)
  g_is_int := He.glo_ok X G (c.fact 5 (f := .glo "is_int") rfl)
  d_is_int := c.def_ 5 (d := ddf "is_int" (top 8)) rfl
  g_is_item := He.glo_ok X G (c.fact 6 (f := .glo "is_item") rfl)
  d_is_item := c.def_ 6 (d := ddf "is_item" (top 11)) rfl
  g_check_item := He.glo_ok X G (c.fact 7 (f := .glo "check_item") rfl)
  d_check_item := c.def_ 7 (d := ddf "check_item" (top 12)) rfl
  g_numbers_of := He.glo_ok X G (c.fact 8 (f := .glo "numbers_of") rfl)
  d_numbers_of := c.def_ 8 (d := ddf "numbers_of" (top 15)) rfl
  d_M_clear := c.def_ 9 (d := ddm "clear" "Marker.clear" (met 2)) rfl
  mt_clear := He.meth_ok (c.fact 9 (f := .meth "Marker" "clear") rfl)
  d_M_mark := c.def_ 10 (d := ddm "mark" "Marker.mark" (met 1)) rfl
  mt_mark := He.meth_ok (c.fact 10 (f := .meth "Marker" "mark") rfl)
  d_M_len := c.def_ 11 (d := ddm "__len__" "Marker.__len__" (met 7)) rfl
  mt_len := He.meth_ok (c.fact 11 (f := .meth "Marker" "__len__") rfl)
  g_text_of := He.glo_ok X G (c.fact 12 (f := .glo "text_of") rfl)
  d_text_of := c.def_ 12 (d := ddf "text_of" (top 17)) rfl
  g_runs_of := He.glo_ok X G (c.fact 13 (f := .glo "runs_of") rfl)
  d_runs_of := c.def_ 13 (d := ddf "runs_of" (top 35)) rfl
  g_plain_of := He.glo_ok X G (c.fact 14 (f := .glo "plain_of") rfl)
  d_plain_of := c.def_ 14 (d := ddf "plain_of" (top 36)) rfl
  d_M_text := c.def_ 15 (d := ddm "text" "Marker.text" (met 4)) rfl
  mt_text := He.meth_ok (c.fact 15 (f := .meth "Marker" "text") rfl)
  g_least_from := He.glo_ok X G (c.fact 16 (f := .glo "least_from") rfl)
  d_least_from := c.def_ 16 (d := ddf "least_from" (top 41)) rfl
  g_covers_fromT := He.glo_ok X G (c.fact 17 (f := .glo "covers_from") rfl)
  d_covers_fromT := c.def_ 17 (d := ddf "covers_from" (top 43)) rfl
  g_within_of := He.glo_ok X G (c.fact 18 (f := .glo "within_of") rfl)
  d_within_of := c.def_ 18 (d := ddf "within_of" (top 22)) rfl
  g_weighed := He.glo_ok X G (c.fact 19 (f := .glo "weighed") rfl)
  d_weighed := c.def_ 19 (d := ddf "weighed" (top 40)) rfl
  g_covers_ofT := He.glo_ok X G (c.fact 20 (f := .glo "covers_of") rfl)
  d_covers_ofT := c.def_ 20 (d := ddf "covers_of" (top 44)) rfl
  d_M_shortT := c.def_ 21 (d := ddm "short" "Marker.short" (met 5)) rfl
  mt_short := He.meth_ok (c.fact 21 (f := .meth "Marker" "short") rfl)
  g_item_numbers := He.glo_ok X G (c.fact 22 (f := .glo "item_numbers") rfl)
  d_item_numbers := c.def_ 22 (d := ddf "item_numbers" (top 16)) rfl
  g_L_markerT := He.glo_ok X G (c.fact 23 (f := .glo "_law_marker") rfl)
  d_L_markerT := c.def_ 23 (d := ddf "_law_marker" (top 66)) rfl
  g_L_items := He.glo_ok X G (c.fact 24 (f := .glo "_law_items") rfl)
  d_L_items := c.def_ 24 (d := ddf "_law_items" (top 61)) rfl
  g_L_word := He.glo_ok X G (c.fact 25 (f := .glo "_law_word") rfl)
  d_L_word := c.def_ 25 (d := ddf "_law_word" (top 62)) rfl
  g_is_set := He.glo_ok X G (c.fact 26 (f := .glo "is_set") rfl)
  d_is_set := c.def_ 26 (d := ddf "is_set" (top 9)) rfl
  g_check_set := He.glo_ok X G (c.fact 27 (f := .glo "check_set") rfl)
  d_check_set := c.def_ 27 (d := ddf "check_set" (top 10)) rfl
  g_number_in := He.glo_ok X G (c.fact 28 (f := .glo "number_in") rfl)
  d_number_in := c.def_ 28 (d := ddf "number_in" (top 19)) rfl
  g_item_in := He.glo_ok X G (c.fact 29 (f := .glo "item_in") rfl)
  d_item_in := c.def_ 29 (d := ddf "item_in" (top 20)) rfl
  g_items_in := He.glo_ok X G (c.fact 30 (f := .glo "items_in") rfl)
  d_items_in := c.def_ 30 (d := ddf "items_in" (top 24)) rfl
  g_check_text := He.glo_ok X G (c.fact 31 (f := .glo "check_text") rfl)
  d_check_text := c.def_ 31 (d := ddf "check_text" (top 26)) rfl
  g_set_of := He.glo_ok X G (c.fact 32 (f := .glo "set_of") rfl)
  d_set_of := c.def_ 32 (d := ddf "set_of" (top 25)) rfl
  g_contains := He.glo_ok X G (c.fact 33 (f := .glo "contains") rfl)
  d_contains := c.def_ 33 (d := ddf "contains" (top 49)) rfl
  g_parse := He.glo_ok X G (c.fact 34 (f := .glo "parse") rfl)
  d_parse := c.def_ 34 (d := ddf "parse" (top 28)) rfl
  g_items := He.glo_ok X G (c.fact 35 (f := .glo "items") rfl)
  d_items := c.def_ 35 (d := ddf "items" (top 29)) rfl
  g_needless := He.glo_ok X G (c.fact 36 (f := .glo "needless") rfl)
  d_needless := c.def_ 36 (d := ddf "needless" (top 32)) rfl
  g_covered_times := He.glo_ok X G (c.fact 37 (f := .glo "covered_times") rfl)
  d_covered_times := c.def_ 37 (d := ddf "covered_times" (top 33)) rfl
  g_tidy := He.glo_ok X G (c.fact 38 (f := .glo "tidy") rfl)
  d_tidy := c.def_ 38 (d := ddf "tidy" (top 37)) rfl
  g_is_plain := He.glo_ok X G (c.fact 39 (f := .glo "is_plain") rfl)
  d_is_plain := c.def_ 39 (d := ddf "is_plain" (top 38)) rfl
  g_length_of := He.glo_ok X G (c.fact 40 (f := .glo "length_of") rfl)
  d_length_of := c.def_ 40 (d := ddf "length_of" (top 42)) rfl
  g_is_shortest := He.glo_ok X G (c.fact 41 (f := .glo "is_shortest") rfl)
  d_is_shortest := c.def_ 41 (d := ddf "is_shortest" (top 45)) rfl
  g_shorter_by := He.glo_ok X G (c.fact 42 (f := .glo "shorter_by") rfl)
  d_shorter_by := c.def_ 42 (d := ddf "shorter_by" (top 46)) rfl
  g_pruned := He.glo_ok X G (c.fact 43 (f := .glo "pruned") rfl)
  d_pruned := c.def_ 43 (d := ddf "pruned" (top 53)) rfl
  g_mean_same := He.glo_ok X G (c.fact 44 (f := .glo "mean_same") rfl)
  d_mean_same := c.def_ 44 (d := ddf "mean_same" (top 31)) rfl
  g_join_texts := He.glo_ok X G (c.fact 45 (f := .glo "join_texts") rfl)
  d_join_texts := c.def_ 45 (d := ddf "join_texts" (top 48)) rfl
  g_L_text_call := He.glo_ok X G (c.fact 46 (f := .glo "_law_text_call") rfl)
  d_L_text_call := c.def_ 46 (d := ddf "_law_text_call" (top 63)) rfl
  g_item_text := He.glo_ok X G (c.fact 47 (f := .glo "item_text") rfl)
  d_item_text := c.def_ 47 (d := ddf "item_text" (top 18)) rfl
  g_with_item := He.glo_ok X G (c.fact 48 (f := .glo "with_item") rfl)
  d_with_item := c.def_ 48 (d := ddf "with_item" (top 51)) rfl
  g_without_item := He.glo_ok X G (c.fact 49 (f := .glo "without_item") rfl)
  d_without_item := c.def_ 49 (d := ddf "without_item" (top 52)) rfl
  g_first_fault := He.glo_ok X G (c.fact 50 (f := .glo "first_fault") rfl)
  d_first_fault := c.def_ 50 (d := ddf "first_fault" (top 30)) rfl
  g_parse_item := He.glo_ok X G (c.fact 51 (f := .glo "parse_item") rfl)
  d_parse_item := c.def_ 51 (d := ddf "parse_item" (top 21)) rfl
  g_L_call := He.glo_ok X G (c.fact 52 (f := .glo "_law_call") rfl)
  d_L_call := c.def_ 52 (d := ddf "_law_call" (top 64)) rfl
  g_L_askedM := He.glo_ok X G (c.fact 53 (f := .glo "_law_asked") rfl)
  d_L_askedM := c.def_ 53 (d := ddf "_law_asked" (top 65)) rfl
  g_is_text := He.glo_ok X G (c.fact 54 (f := .glo "is_text") rfl)
  d_is_text := c.def_ 54 (d := ddf "is_text" (top 27)) rfl
  g_L_draw := He.glo_ok X G (c.fact 55 (f := .glo "_law_draw") rfl)
  d_L_draw := c.def_ 55 (d := ddf "_law_draw" (top 58)) rfl
  g_L_start := He.glo_ok X G (c.fact 56 (f := .glo "_law_start") rfl)
  d_L_start := c.def_ 56 (d := ddf "_law_start" (top 57)) rfl
  g_law := He.glo_ok X G (c.fact 57 (f := .glo "law") rfl)
  d_law := c.def_ 57 (d := ddf "law" (top 67)) rfl
  gM := He.glo_ok X G (c.fact 85 (f := .glo "Marker") rfl)
  mM := ⟨He.cls_ok (c.fact 86 (f := .cls "Marker") rfl), He.noat_ok (c.fact 87 (f := .noat "Marker" "now") rfl), He.noat_ok (c.fact 88 (f := .noat "Marker" "past") rfl)⟩
  b_ValueError := He.free_ok X G (c.fact 58 (f := .free "ValueError") rfl)
  b_all := He.free_ok X G (c.fact 59 (f := .free "all") rfl)
  b_bool := He.free_ok X G (c.fact 60 (f := .free "bool") rfl)
  b_enumerate := He.free_ok X G (c.fact 61 (f := .free "enumerate") rfl)
  b_int := He.free_ok X G (c.fact 62 (f := .free "int") rfl)
  b_isinstance := He.free_ok X G (c.fact 63 (f := .free "isinstance") rfl)
  b_len := He.free_ok X G (c.fact 64 (f := .free "len") rfl)
  b_list := He.free_ok X G (c.fact 65 (f := .free "list") rfl)
  b_range := He.free_ok X G (c.fact 66 (f := .free "range") rfl)
  b_set := He.free_ok X G (c.fact 67 (f := .free "set") rfl)
  b_sorted := He.free_ok X G (c.fact 68 (f := .free "sorted") rfl)
  b_str := He.free_ok X G (c.fact 69 (f := .free "str") rfl)
  b_tuple := He.free_ok X G (c.fact 70 (f := .free "tuple") rfl)
  b_zip := He.free_ok X G (c.fact 71 (f := .free "zip") rfl)
  c_MOST := He.int_ok X G (c.fact 72 (f := .int "MOST" 10) rfl)
  c_DIGITS := He.str_ok X G (c.fact 73 (f := .str "DIGITS" "0123456789") rfl)
  x_0 := ⟨He.glo_ok X G (c.fact 74 (f := .glo "BadSet") rfl), (He.exc_ok (c.fact 75 (f := .exc "BadSet") rfl)).1, (He.exc_ok (c.fact 75 (f := .exc "BadSet") rfl)).2.1, (He.exc_ok (c.fact 75 (f := .exc "BadSet") rfl)).2.2.1, (He.exc_ok (c.fact 75 (f := .exc "BadSet") rfl)).2.2.2⟩
  x_1 := ⟨He.glo_ok X G (c.fact 76 (f := .glo "BadItem") rfl), (He.exc_ok (c.fact 77 (f := .exc "BadItem") rfl)).1, (He.exc_ok (c.fact 77 (f := .exc "BadItem") rfl)).2.1, (He.exc_ok (c.fact 77 (f := .exc "BadItem") rfl)).2.2.1, (He.exc_ok (c.fact 77 (f := .exc "BadItem") rfl)).2.2.2⟩
  x_2 := ⟨He.glo_ok X G (c.fact 78 (f := .glo "BadNumber") rfl), (He.exc_ok (c.fact 79 (f := .exc "BadNumber") rfl)).1, (He.exc_ok (c.fact 79 (f := .exc "BadNumber") rfl)).2.1, (He.exc_ok (c.fact 79 (f := .exc "BadNumber") rfl)).2.2.1, (He.exc_ok (c.fact 79 (f := .exc "BadNumber") rfl)).2.2.2⟩
  x_3 := ⟨He.glo_ok X G (c.fact 80 (f := .glo "BadText") rfl), (He.exc_ok (c.fact 81 (f := .exc "BadText") rfl)).1, (He.exc_ok (c.fact 81 (f := .exc "BadText") rfl)).2.1, (He.exc_ok (c.fact 81 (f := .exc "BadText") rfl)).2.2.1, (He.exc_ok (c.fact 81 (f := .exc "BadText") rfl)).2.2.2⟩
  x_4 := ⟨He.glo_ok X G (c.fact 82 (f := .glo "NotFound") rfl), (He.exc_ok (c.fact 83 (f := .exc "NotFound") rfl)).1, (He.exc_ok (c.fact 83 (f := .exc "NotFound") rfl)).2.1, (He.exc_ok (c.fact 83 (f := .exc "NotFound") rfl)).2.2.1, (He.exc_ok (c.fact 83 (f := .exc "NotFound") rfl)).2.2.2⟩
  xr := He.glo_ok X G (c.fact 84 (f := .glo "RangeError") rfl)
  xm := fun m hm => (excAll_ok xa m hm).1
  xc := fun m hm => (excAll_ok xa m hm).2.1
  xk := fun j hj m hm => (excAll_ok xa m hm).2.2.1 j hj
  xkr := fun m hm => (excAll_ok xa m hm).2.2.2.1
  xv := fun m hm => (excAll_ok xa m hm).2.2.2.2
end Rt
namespace Rt
open PySem PySem.Spec PyProof.Rows L2

abbrev A3 (i : Itm) : List Itm := [i, (3, 3, 1)]
theorem tst_congr {dop : D → D → Option R} {f f' g : M R} {Γ : En} (h : f Γ = f' Γ) : tst (bin dop f g) Γ = tst (bin dop f' g) Γ := by
  simp only [ap_tst, ap_bin, h]
theorem vOf_nb {x : Rs R} {r : R} (h : vOf x = some r) : ∀ i, r ≠ .bor i := by
  unfold vOf at h
  split at h
  · cases h; exact fun _ => nofun
  · cases h; exact fun _ => nofun
  · cases h
theorem F1 (ns : List Int) : (sFor (iSq (mkLst (aCons (sto (eC .none)) (aCons (sto (eC (.int 5))) (aCons (sto (mkTup (aNil))) (aCons (sto (mkTup (aCons (sto (eC (.int 1))) (aLast (sto (eC (.int 2))))))) (aCons (sto (mkLst (aCons (sto (eC (.int 1))) (aCons (sto (eC (.int 3))) (aLast (sto (eC (.int 1)))))))) (aCons (sto (mkTup (aCons (sto (eC (.int 0))) (aCons (sto (eC (.int 1))) (aLast (sto (eC (.int 1)))))))) (aCons (sto (mkTup (aCons (sto (eC (.int 1))) (aCons (sto (eC (.int 11))) (aLast (sto (eC (.int 1)))))))) (aCons (sto (mkTup (aCons (sto (eC (.int 3))) (aCons (sto (eC (.int 1))) (aLast (sto (eC (.int 1)))))))) (aCons (sto (mkTup (aCons (sto (eC (.int 1))) (aCons (sto (eC (.int 1))) (aLast (sto (eC (.int 2)))))))) (aCons (sto (mkTup (aCons (sto (eC (.int 1))) (aCons (sto (eC (.int 4))) (aLast (sto (eC (.int 2)))))))) (aCons (sto (mkTup (aCons (sto (eC (.int 1))) (aCons (sto (eC (.int 3))) (aLast (sto (eC (.int 0)))))))) (aCons (sto (mkTup (aCons (sto (eC (.bool true))) (aCons (sto (eC (.int 1))) (aLast (sto (eC (.int 1)))))))) (aCons (sto (mkTup (aCons (sto (eC (.int 1))) (aCons (sto (eC (.int 3))) (aLast (sto (eC (.bool true)))))))) (aCons (sto (mkTup (aCons (sto (eC (.str "1"))) (aCons (sto (eC (.int 3))) (aLast (sto (eC (.int 1)))))))) (aCons (sto (mkTup (aCons (sto (eC (.int 1))) (aCons (sto (eC (.int 3))) (aLast (sto (eC .none))))))) (aCons (sto (mkTup (aCons (sto (eC (.int 1))) (aCons (sto (eC (.int 10))) (aLast (sto (eC (.int 10)))))))) (aLast (sto (mkTup (aCons (sto (eC (.int 1))) (aCons (sto (eC (.int 2))) (aCons (sto (eC (.int 1))) (aLast (sto (eC (.int 1)))))))))))))))))))))))))))) (tgN 3) (sSeq (sIf (mOr (tst (bin dIsNot (callV 1 g_is_item (aLast (sto (eVar 3)))) (eC (.bool false)))) (tst (bin dNe (lcM (iSq (mkTup (aCons (sto (eC (.int 0))) (aCons (sto (eC (.int 1))) (aLast (sto (eC (.int 2)))))))) (tgN 8) (M.ret true) (callV 4 g_L_askedM (aCons (sto (eC (.int 2))) (aCons (sto (eVar 8)) (aCons (sto (eVar 3)) (aLast (sto (eC (.int 0)))))))) [8]) (bin dMulA (mkLst (aLast (sto (eC (.str "item"))))) (eC (.int 3)))))) (sRet (eC (.bool false))) (sNx)) (sIf (mOr (tst (bin dNe (lcM (iSq (mkTup (aCons (sto (eC (.int 3))) (aLast (sto (eC (.int 4))))))) (tgN 8) (M.ret true) (callIO 4 g_L_askedM (aCons (sto (eC (.int 2))) (aCons (sto (eVar 8)) (aCons (eVar 2) (aLast (sto (eVar 3))))))) [8]) (bin dMulA (mkLst (aLast (sto (eC (.str "item"))))) (eC (.int 2))))) (mOr (tst (bin dNe (callV 4 g_L_askedM (aCons (sto (eC (.int 2))) (aCons (sto (eC (.int 6))) (aCons (sto (eC (.str "1"))) (aLast (sto (eVar 3))))))) (eC (.str "item")))) (tst (bin dNe (callV 4 g_L_askedM (aCons (sto (eC (.int 2))) (aCons (sto (eC (.int 6))) (aCons (sto (eC .none)) (aLast (sto (eVar 3))))))) (eC (.str "text")))))) (sRet (eC (.bool false))) (sNx)))) [.un, .own none (.drw ns 0), .own none (.mrk [] []), .un, .un, .un, .un, .un, .un, .un] = .ok .nx [.un, .own none (.drw ns 0), .own none (.mrk [] []), .val (.tuple [.int 1, .int 2, .int 1, .int 1]), .un, .un, .un, .un, .un, .un] := by kernel_rfl
theorem F2 (ns : List Int) : (sFor (iSq (mkLst (aCons (sto (mkTup (aCons (sto (eC (.int 1))) (aCons (sto (eC (.int 1))) (aLast (sto (eC (.int 1)))))))) (aCons (sto (mkTup (aCons (sto (eC (.int 1))) (aCons (sto (eC (.int 10))) (aLast (sto (eC (.int 9)))))))) (aCons (sto (mkTup (aCons (sto (eC (.int 1))) (aCons (sto (eC (.int 10))) (aLast (sto (eC (.int 1)))))))) (aLast (sto (mkTup (aCons (sto (eC (.int 10))) (aCons (sto (eC (.int 10))) (aLast (sto (eC (.int 1)))))))))))))) (tgN 4) (sIf (mOr (tst (bin dIsNot (callV 1 g_is_item (aLast (sto (eVar 4)))) (eC (.bool true)))) (tst (bin dNe (lcM (iSq (mkTup (aCons (sto (eC (.int 0))) (aCons (sto (eC (.int 1))) (aLast (sto (eC (.int 2)))))))) (tgN 8) (M.ret true) (callV 4 g_L_askedM (aCons (sto (eC (.int 2))) (aCons (sto (eVar 8)) (aCons (sto (eVar 4)) (aLast (sto (eC (.int 0)))))))) [8]) (bin dMulA (mkLst (aLast (sto (eC (.str "done"))))) (eC (.int 3)))))) (sRet (eC (.bool false))) (sNx))) [.un, .own none (.drw ns 0), .own none (.mrk [] []), .val (.tuple [.int 1, .int 2, .int 1, .int 1]), .un, .un, .un, .un, .un, .un] = .ok .nx [.un, .own none (.drw ns 0), .own none (.mrk [] []), .val (.tuple [.int 1, .int 2, .int 1, .int 1]), .val (.tuple [.int 10, .int 10, .int 1]), .un, .un, .un, .un, .un] := by kernel_rfl
theorem F3 (ns : List Int) : (sFor (iSq (mkLst (aCons (sto (eC .none)) (aCons (sto (eC (.int 5))) (aCons (sto (eC (.str ""))) (aCons (sto (eC (.str ","))) (aCons (sto (eC (.str "1,"))) (aCons (sto (eC (.str ",1"))) (aCons (sto (eC (.str "1,,2"))) (aCons (sto (eC (.str "0"))) (aCons (sto (eC (.str "11"))) (aCons (sto (eC (.str "1-1"))) (aCons (sto (eC (.str "2-1"))) (aCons (sto (eC (.str "1-3/1"))) (aCons (sto (eC (.str "1-4/2"))) (aCons (sto (eC (.str "1 ,2"))) (aCons (sto (eC (.str "a"))) (aCons (sto (mkLst (aLast (sto (eC (.str "1")))))) (aCons (sto (eC (.str "1;2"))) (aCons (sto (eC (.str "1-"))) (aCons (sto (eC (.str "-1"))) (aLast (sto (eC (.str "1/2"))))))))))))))))))))))))) (tgN 3) (sIf (mOr (tst (bin dIsNot (callV 1 g_is_text (aLast (sto (eVar 3)))) (eC (.bool false)))) (mOr (tst (bin dNe (lcM (iRg rg1 (aLast (eC (.int 14)))) (tgN 8) (M.ret true) (callV 4 g_L_askedM (aCons (sto (eC (.int 1))) (aCons (sto (eVar 8)) (aCons (sto (eVar 3)) (aLast (sto (eC (.int 0)))))))) [8]) (bin dMulA (mkLst (aLast (sto (eC (.str "text"))))) (eC (.int 14))))) (tst (bin dNe (callV 4 g_L_askedM (aCons (sto (eC (.int 2))) (aCons (sto (eC (.int 5))) (aCons (sto (eVar 3)) (aLast (sto (eC .none))))))) (eC (.str "text")))))) (sRet (eC (.bool false))) (sNx))) [.un, .own none (.drw ns 0), .own none (.mrk [] []), .val (.tuple [.int 1, .int 2, .int 1, .int 1]), .val (.tuple [.int 10, .int 10, .int 1]), .un, .un, .un, .un, .un] = .ok .nx [.un, .own none (.drw ns 0), .own none (.mrk [] []), .val (.str "1/2"), .val (.tuple [.int 10, .int 10, .int 1]), .un, .un, .un, .un, .un] := by kernel_rfl
theorem F5 (ns1 : List Int) (n1 : Int) : ∀ i ∈ items110, (bin dAdd (callV 1 g_L_word (aLast (sto (eVar 5)))) (eC (.str ",3"))) [.un, .own none (.drw ns1 n1), .own none (.mrk [] []), .val (.str "1/2"), .val (.tuple [.int 10, .int 10, .int 1]), .val (iD i), .un, .un, .un, .un] = .ok (.val (.str (text (A3 i)))) [.un, .own none (.drw ns1 n1), .own none (.mrk [] []), .val (.str "1/2"), .val (.tuple [.int 10, .int 10, .int 1]), .val (iD i), .un, .un, .un, .un] := all_of (by kernel_rfl)
theorem slices {P : Itm → Prop} (h0 : ∀ i ∈ items110.take 28, P i) (h1 : ∀ i ∈ (items110.drop 28).take 28, P i) (h2 : ∀ i ∈ (items110.drop 56).take 28, P i) (h3 : ∀ i ∈ items110.drop 84, P i) : ∀ i ∈ items110, P i := by
  intro i hi
  have e : items110 = items110.take 28 ++ ((items110.drop 28).take 28 ++ ((items110.drop 56).take 28 ++ items110.drop 84)) := by decide +kernel
  rw [e, List.mem_append, List.mem_append, List.mem_append] at hi
  rcases hi with h | h | h | h
  · exact h0 i h
  · exact h1 i h
  · exact h2 i h
  · exact h3 i h
theorem F7a (ns1 : List Int) (n1 : Int) : ∀ i ∈ items110.take 28, (sAsg 7 (sto (lcM (iSq (mkTup (aCons (sto (eC .none)) (aCons (sto (eC (.int 2))) (aCons (sto (bin dSub (eC (.int 0)) (eC (.int 1)))) (aCons (sto (eC (.bool true))) (aCons (sto (eC (.str "0"))) (aCons (sto (eC (.int 0))) (aLast (sto (eC (.int 1)))))))))))) (tgN 9) (M.ret true) (callV 4 g_L_askedM (aCons (sto (eC (.int 2))) (aCons (sto (eC (.int 5))) (aCons (sto (eVar 6)) (aLast (sto (eVar 9))))))) [9]))) [.un, .own none (.drw ns1 n1), .own none (.mrk [] []), .val (.str "1/2"), .val (.tuple [.int 10, .int 10, .int 1]), .val (iD i), .val (.str (text (A3 i))), .un, .un, .un] = .ok .nx [.un, .own none (.drw ns1 n1), .own none (.mrk [] []), .val (.str "1/2"), .val (.tuple [.int 10, .int 10, .int 1]), .val (iD i), .val (.str (text (A3 i))), .val (.list [.str "number", .str "number", .str "number", .str "number", .str "number", .str "done", .str "done"]), .un, .un] := all_of (by kernel_rfl)
theorem F7b (ns1 : List Int) (n1 : Int) : ∀ i ∈ (items110.drop 28).take 28, (sAsg 7 (sto (lcM (iSq (mkTup (aCons (sto (eC .none)) (aCons (sto (eC (.int 2))) (aCons (sto (bin dSub (eC (.int 0)) (eC (.int 1)))) (aCons (sto (eC (.bool true))) (aCons (sto (eC (.str "0"))) (aCons (sto (eC (.int 0))) (aLast (sto (eC (.int 1)))))))))))) (tgN 9) (M.ret true) (callV 4 g_L_askedM (aCons (sto (eC (.int 2))) (aCons (sto (eC (.int 5))) (aCons (sto (eVar 6)) (aLast (sto (eVar 9))))))) [9]))) [.un, .own none (.drw ns1 n1), .own none (.mrk [] []), .val (.str "1/2"), .val (.tuple [.int 10, .int 10, .int 1]), .val (iD i), .val (.str (text (A3 i))), .un, .un, .un] = .ok .nx [.un, .own none (.drw ns1 n1), .own none (.mrk [] []), .val (.str "1/2"), .val (.tuple [.int 10, .int 10, .int 1]), .val (iD i), .val (.str (text (A3 i))), .val (.list [.str "number", .str "number", .str "number", .str "number", .str "number", .str "done", .str "done"]), .un, .un] := all_of (by kernel_rfl)
theorem F7c (ns1 : List Int) (n1 : Int) : ∀ i ∈ (items110.drop 56).take 28, (sAsg 7 (sto (lcM (iSq (mkTup (aCons (sto (eC .none)) (aCons (sto (eC (.int 2))) (aCons (sto (bin dSub (eC (.int 0)) (eC (.int 1)))) (aCons (sto (eC (.bool true))) (aCons (sto (eC (.str "0"))) (aCons (sto (eC (.int 0))) (aLast (sto (eC (.int 1)))))))))))) (tgN 9) (M.ret true) (callV 4 g_L_askedM (aCons (sto (eC (.int 2))) (aCons (sto (eC (.int 5))) (aCons (sto (eVar 6)) (aLast (sto (eVar 9))))))) [9]))) [.un, .own none (.drw ns1 n1), .own none (.mrk [] []), .val (.str "1/2"), .val (.tuple [.int 10, .int 10, .int 1]), .val (iD i), .val (.str (text (A3 i))), .un, .un, .un] = .ok .nx [.un, .own none (.drw ns1 n1), .own none (.mrk [] []), .val (.str "1/2"), .val (.tuple [.int 10, .int 10, .int 1]), .val (iD i), .val (.str (text (A3 i))), .val (.list [.str "number", .str "number", .str "number", .str "number", .str "number", .str "done", .str "done"]), .un, .un] := all_of (by kernel_rfl)
theorem F7d (ns1 : List Int) (n1 : Int) : ∀ i ∈ items110.drop 84, (sAsg 7 (sto (lcM (iSq (mkTup (aCons (sto (eC .none)) (aCons (sto (eC (.int 2))) (aCons (sto (bin dSub (eC (.int 0)) (eC (.int 1)))) (aCons (sto (eC (.bool true))) (aCons (sto (eC (.str "0"))) (aCons (sto (eC (.int 0))) (aLast (sto (eC (.int 1)))))))))))) (tgN 9) (M.ret true) (callV 4 g_L_askedM (aCons (sto (eC (.int 2))) (aCons (sto (eC (.int 5))) (aCons (sto (eVar 6)) (aLast (sto (eVar 9))))))) [9]))) [.un, .own none (.drw ns1 n1), .own none (.mrk [] []), .val (.str "1/2"), .val (.tuple [.int 10, .int 10, .int 1]), .val (iD i), .val (.str (text (A3 i))), .un, .un, .un] = .ok .nx [.un, .own none (.drw ns1 n1), .own none (.mrk [] []), .val (.str "1/2"), .val (.tuple [.int 10, .int 10, .int 1]), .val (iD i), .val (.str (text (A3 i))), .val (.list [.str "number", .str "number", .str "number", .str "number", .str "number", .str "done", .str "done"]), .un, .un] := all_of (by kernel_rfl)
theorem F9a (ns1 : List Int) (n1 : Int) : ∀ i ∈ items110.take 28, (sRet (callIO 2 g_L_markerT (aCons (eVar 2) (aLast (sto (eVar 5)))))) [.un, .own none (.drw ns1 n1), .own none (.mrk [] []), .val (.str "1/2"), .val (.tuple [.int 10, .int 10, .int 1]), .val (iD i), .val (.str (text (A3 i))), .val (.list [.str "number", .str "number", .str "number", .str "number", .str "number", .str "done", .str "done"]), .un, .un] = .ok (.ret (.val (.bool true))) [.un, .own none (.drw ns1 n1), .own none (.mrk [] []), .val (.str "1/2"), .val (.tuple [.int 10, .int 10, .int 1]), .val (iD i), .val (.str (text (A3 i))), .val (.list [.str "number", .str "number", .str "number", .str "number", .str "number", .str "done", .str "done"]), .un, .un] := all_of (by kernel_rfl)
theorem F9b (ns1 : List Int) (n1 : Int) : ∀ i ∈ (items110.drop 28).take 28, (sRet (callIO 2 g_L_markerT (aCons (eVar 2) (aLast (sto (eVar 5)))))) [.un, .own none (.drw ns1 n1), .own none (.mrk [] []), .val (.str "1/2"), .val (.tuple [.int 10, .int 10, .int 1]), .val (iD i), .val (.str (text (A3 i))), .val (.list [.str "number", .str "number", .str "number", .str "number", .str "number", .str "done", .str "done"]), .un, .un] = .ok (.ret (.val (.bool true))) [.un, .own none (.drw ns1 n1), .own none (.mrk [] []), .val (.str "1/2"), .val (.tuple [.int 10, .int 10, .int 1]), .val (iD i), .val (.str (text (A3 i))), .val (.list [.str "number", .str "number", .str "number", .str "number", .str "number", .str "done", .str "done"]), .un, .un] := all_of (by kernel_rfl)
theorem F9c (ns1 : List Int) (n1 : Int) : ∀ i ∈ (items110.drop 56).take 28, (sRet (callIO 2 g_L_markerT (aCons (eVar 2) (aLast (sto (eVar 5)))))) [.un, .own none (.drw ns1 n1), .own none (.mrk [] []), .val (.str "1/2"), .val (.tuple [.int 10, .int 10, .int 1]), .val (iD i), .val (.str (text (A3 i))), .val (.list [.str "number", .str "number", .str "number", .str "number", .str "number", .str "done", .str "done"]), .un, .un] = .ok (.ret (.val (.bool true))) [.un, .own none (.drw ns1 n1), .own none (.mrk [] []), .val (.str "1/2"), .val (.tuple [.int 10, .int 10, .int 1]), .val (iD i), .val (.str (text (A3 i))), .val (.list [.str "number", .str "number", .str "number", .str "number", .str "number", .str "done", .str "done"]), .un, .un] := all_of (by kernel_rfl)
theorem F9d (ns1 : List Int) (n1 : Int) : ∀ i ∈ items110.drop 84, (sRet (callIO 2 g_L_markerT (aCons (eVar 2) (aLast (sto (eVar 5)))))) [.un, .own none (.drw ns1 n1), .own none (.mrk [] []), .val (.str "1/2"), .val (.tuple [.int 10, .int 10, .int 1]), .val (iD i), .val (.str (text (A3 i))), .val (.list [.str "number", .str "number", .str "number", .str "number", .str "number", .str "done", .str "done"]), .un, .un] = .ok (.ret (.val (.bool true))) [.un, .own none (.drw ns1 n1), .own none (.mrk [] []), .val (.str "1/2"), .val (.tuple [.int 10, .int 10, .int 1]), .val (iD i), .val (.str (text (A3 i))), .val (.list [.str "number", .str "number", .str "number", .str "number", .str "number", .str "done", .str "done"]), .un, .un] := all_of (by kernel_rfl)
theorem asked1 {k a b : D} {r : R} (h : vOf (g_L_text_call [.val k, .val a]) = some r) : vOf (g_L_askedM [.val (.int 1), .val k, .val a, .val b]) = some (.val (.str "done")) := by
  refine vOf_ok (Γ := [.val (.int 1), .val k, .val a, .val b, .val .none, .un]) ?_ (fun _ => nofun)
  unfold g_L_askedM m_L_askedM
  simp [ap_fnP, retV_of h]
theorem one_text : text [((1, 1, 1) : Itm)] = "1" := by decide +kernel
theorem text_call {i : Itm} (hi : i ∈ items110) : ∀ k < 14, ∃ r, vOf (g_L_text_call [.val (.int (k : Nat)), .val (.str (text (A3 i)))]) = some r := by
  have hA : ∀ j ∈ A3 i, j ∈ items110 := by
    intro j hj
    simp only [A3, List.mem_cons, List.not_mem_nil, or_false] at hj
    rcases hj with rfl | rfl
    · exact hi
    · decide +kernel
  have hne : A3 i ≠ [] := by simp
  have hl : (A3 i).length = 2 := rfl
  have h1 : ∀ j ∈ [((1, 1, 1) : Itm)], j ∈ items110 := by decide +kernel
  intro k hk
  have : k = 0 ∨ k = 1 ∨ k = 2 ∨ k = 3 ∨ k = 4 ∨ k = 5 ∨ k = 6 ∨ k = 7 ∨ k = 8 ∨ k = 9 ∨ k = 10 ∨ k = 11 ∨ k = 12 ∨ k = 13 := by omega
  rcases this with rfl | rfl | rfl | rfl | rfl | rfl | rfl | rfl | rfl | rfl | rfl | rfl | rfl | rfl
  · have q := parse_ok hA hne (by omega)
    generalize text (A3 i) = z at *
    refine ⟨_, vOf_ok (Γ := [.val (.int 0), .val (.str z)]) ?_ (vOf_nb q)⟩
    unfold g_L_text_call m_L_text_call
    simp [ap_fnX, retV_of q]
  · have q := items_ok hA hne (by omega)
    generalize text (A3 i) = z at *
    refine ⟨_, vOf_ok (Γ := [.val (.int 1), .val (.str z)]) ?_ (vOf_nb q)⟩
    unfold g_L_text_call m_L_text_call
    simp [ap_fnX, retV_of q]
  · have q := needless_ok hA hne (by omega)
    generalize text (A3 i) = z at *
    refine ⟨_, vOf_ok (Γ := [.val (.int 2), .val (.str z)]) ?_ (vOf_nb q)⟩
    unfold g_L_text_call m_L_text_call
    simp [ap_fnX, retV_of q]
  · have q := covered_times_ok hA hne (by omega)
    generalize text (A3 i) = z at *
    refine ⟨_, vOf_ok (Γ := [.val (.int 3), .val (.str z)]) ?_ (vOf_nb q)⟩
    unfold g_L_text_call m_L_text_call
    simp [ap_fnX, retV_of q]
  · have q := tidy_ok hA hne (by omega)
    generalize text (A3 i) = z at *
    refine ⟨_, vOf_ok (Γ := [.val (.int 4), .val (.str z)]) ?_ (vOf_nb q)⟩
    unfold g_L_text_call m_L_text_call
    simp [ap_fnX, retV_of q]
  · have q := is_plain_ok hA hne (by omega)
    generalize text (A3 i) = z at *
    refine ⟨_, vOf_ok (Γ := [.val (.int 5), .val (.str z)]) ?_ (vOf_nb q)⟩
    unfold g_L_text_call m_L_text_call
    simp [ap_fnX, retV_of q]
  · have q := is_shortest_ok hA hne (by omega)
    generalize text (A3 i) = z at *
    refine ⟨_, vOf_ok (Γ := [.val (.int 6), .val (.str z)]) ?_ (vOf_nb q)⟩
    unfold g_L_text_call m_L_text_call
    simp [ap_fnX, retV_of q]
  · have q := shorter_by_ok hA hne (by omega)
    generalize text (A3 i) = z at *
    refine ⟨_, vOf_ok (Γ := [.val (.int 7), .val (.str z)]) ?_ (vOf_nb q)⟩
    unfold g_L_text_call m_L_text_call
    simp [ap_fnX, retV_of q]
  · have q := pruned_ok hA hne (by omega)
    generalize text (A3 i) = z at *
    refine ⟨_, vOf_ok (Γ := [.val (.int 8), .val (.str z)]) ?_ (vOf_nb q)⟩
    unfold g_L_text_call m_L_text_call
    simp [ap_fnX, retV_of q]
  · have q := mean_same_ok hA hne (by omega) h1 (by simp) (by decide)
    rw [one_text] at q
    generalize text (A3 i) = z at *
    refine ⟨_, vOf_ok (Γ := [.val (.int 9), .val (.str z)]) ?_ (vOf_nb q)⟩
    unfold g_L_text_call m_L_text_call
    simp [ap_fnX, retV_of q]
  · have q := mean_same_ok h1 (by simp) (by decide) hA hne (by omega)
    rw [one_text] at q
    generalize text (A3 i) = z at *
    refine ⟨_, vOf_ok (Γ := [.val (.int 10), .val (.str z)]) ?_ (vOf_nb q)⟩
    unfold g_L_text_call m_L_text_call
    simp [ap_fnX, retV_of q]
  · have q := join_texts_ok hA hne (by omega) h1 (by simp) (by decide)
    rw [one_text] at q
    generalize text (A3 i) = z at *
    refine ⟨_, vOf_ok (Γ := [.val (.int 11), .val (.str z)]) ?_ (vOf_nb q)⟩
    unfold g_L_text_call m_L_text_call
    simp [ap_fnX, retV_of q]
  · have q := join_texts_ok h1 (by simp) (by decide) hA hne (by omega)
    rw [one_text] at q
    generalize text (A3 i) = z at *
    refine ⟨_, vOf_ok (Γ := [.val (.int 12), .val (.str z)]) ?_ (vOf_nb q)⟩
    unfold g_L_text_call m_L_text_call
    simp [ap_fnX, retV_of q]
  · have q := contains_ok (S := [1]) (by decide +kernel) hA hne (by omega)
    simp only [dl, List.map] at q
    generalize text (A3 i) = z at *
    refine ⟨_, vOf_ok (Γ := [.val (.int 13), .val (.str z)]) ?_ (vOf_nb q)⟩
    unfold g_L_text_call m_L_text_call
    simp [ap_fnX, retV_of q]

theorem pure_law : LawTrue m_law 8 := by
  intro ns h0 h1
  have s0 : (sAsg 2 (newMk)) [.un, .own none (.drw ns 0), .un, .un, .un, .un, .un, .un, .un, .un] = .ok .nx [.un, .own none (.drw ns 0), .own none (.mrk [] []), .un, .un, .un, .un, .un, .un, .un] := by kernel_rfl
  obtain ⟨d, hd, ns1, n1, l1, e1⟩ := do_pick (Γ := [.un, .own none (.drw ns 0), .own none (.mrk [] []), .val (.str "1/2"), .val (.tuple [.int 10, .int 10, .int 1]), .un, .un, .un, .un, .un]) (i := 1) (kk := none) (ds := items110.map iD) (f := callV 0 g_L_items aNil) (Γ0 := [.un, .own none (.drw ns 0), .own none (.mrk [] []), .val (.str "1/2"), .val (.tuple [.int 10, .int 10, .int 1]), .un, .un, .un, .un, .un]) (Γ1 := [.un, .own none (.drw ns 0), .own none (.mrk [] []), .val (.str "1/2"), .val (.tuple [.int 10, .int 10, .int 1]), .un, .un, .un, .un, .un]) (q := .own (.lst (items110.map iD))) (by decide) (by simp [items110]) (by simp [retV_of F_items]) rfl rfl rfl (by omega) (by omega)
  obtain ⟨i, hi, rfl⟩ := List.mem_map.mp hd
  have s4 : (sAsg 5 (sto (callIO 2 g_L_pick (aCons (eVar 1) (aLast (sto (callV 0 g_L_items aNil))))))) [.un, .own none (.drw ns 0), .own none (.mrk [] []), .val (.str "1/2"), .val (.tuple [.int 10, .int 10, .int 1]), .un, .un, .un, .un, .un] = .ok .nx [.un, .own none (.drw ns1 n1), .own none (.mrk [] []), .val (.str "1/2"), .val (.tuple [.int 10, .int 10, .int 1]), .val (iD i), .un, .un, .un, .un] := asg_v e1 rfl (by simp)
  have s5 : (sAsg 6 (sto (bin dAdd (callV 1 g_L_word (aLast (sto (eVar 5)))) (eC (.str ",3"))))) [.un, .own none (.drw ns1 n1), .own none (.mrk [] []), .val (.str "1/2"), .val (.tuple [.int 10, .int 10, .int 1]), .val (iD i), .un, .un, .un, .un] = .ok .nx [.un, .own none (.drw ns1 n1), .own none (.mrk [] []), .val (.str "1/2"), .val (.tuple [.int 10, .int 10, .int 1]), .val (iD i), .val (.str (text (A3 i))), .un, .un, .un] := asg_v (F5 ns1 n1 i hi) rfl (by simp)
  have s6 : (sIf (mOr (tst (bin dIsNot (callV 1 g_is_text (aLast (sto (eVar 6)))) (eC (.bool true)))) (mOr (tst (bin dNe (lcM (iRg rg1 (aLast (eC (.int 14)))) (tgN 8) (M.ret true) (callV 4 g_L_askedM (aCons (sto (eC (.int 1))) (aCons (sto (eVar 8)) (aCons (sto (eVar 6)) (aLast (sto (eC (.int 0)))))))) [8]) (bin dMulA (mkLst (aLast (sto (eC (.str "done"))))) (eC (.int 14))))) (tst (bin dNe (lcM (iSq (mkTup (aCons (sto (eC .none)) (aCons (sto (eC (.int 5))) (aCons (sto (mkLst (aLast (sto (eC (.str "1")))))) (aLast (sto (eC (.str "x"))))))))) (tgN 3) (M.ret true) (callV 4 g_L_askedM (aCons (sto (eC (.int 2))) (aCons (sto (eC (.int 7))) (aCons (sto (eVar 3)) (aLast (sto (eC (.int 0)))))))) [3]) (bin dAdd (bin dMulA (mkLst (aLast (sto (eC (.str "text"))))) (eC (.int 3))) (mkLst (aLast (sto (eC (.str "done")))))))))) (sRet (eC (.bool false))) (sNx)) [.un, .own none (.drw ns1 n1), .own none (.mrk [] []), .val (.str "1/2"), .val (.tuple [.int 10, .int 10, .int 1]), .val (iD i), .val (.str (text (A3 i))), .un, .un, .un] = .ok .nx [.un, .own none (.drw ns1 n1), .own none (.mrk [] []), .val (.str "1/2"), .val (.tuple [.int 10, .int 10, .int 1]), .val (iD i), .val (.str (text (A3 i))), .un, .un, .un] := by
    have hA : ∀ j ∈ A3 i, j ∈ items110 := by
      intro j hj
      simp only [A3, List.mem_cons, List.not_mem_nil, or_false] at hj
      rcases hj with rfl | rfl
      · exact hi
      · decide +kernel
    have q := (text_ok' hA (by simp) (by simp)).1
    have lc : (lcM (iRg rg1 (aLast (eC (.int 14)))) (tgN 8) (M.ret true) (callV 4 g_L_askedM (aCons (sto (eC (.int 1))) (aCons (sto (eVar 8)) (aCons (sto (eVar 6)) (aLast (sto (eC (.int 0)))))))) [8]) [.un, .own none (.drw ns1 n1), .own none (.mrk [] []), .val (.str "1/2"), .val (.tuple [.int 10, .int 10, .int 1]), .val (iD i), .val (.str (text (A3 i))), .un, .un, .un] = .ok (.own (.lst ((List.range 14).map fun _ => PyData.str "done"))) [.un, .own none (.drw ns1 n1), .own none (.mrk [] []), .val (.str "1/2"), .val (.tuple [.int 10, .int 10, .int 1]), .val (iD i), .val (.str (text (A3 i))), .un, .un, .un] := by
      have rg := rg1_nat 14 (by omega)
      have rl : rngL 0 14 = (List.range 14).map fun k => PyData.int ((k : Nat) : Int) := by simp [rngL]
      have rg' : (iRg rg1 (aLast (eC (.int 14)))) [.un, .own none (.drw ns1 n1), .own none (.mrk [] []), .val (.str "1/2"), .val (.tuple [.int 10, .int 10, .int 1]), .val (iD i), .val (.str (text (A3 i))), .un, .un, .un] = .ok ((List.range 14).map fun k => PyData.int ((k : Nat) : Int)) [.un, .own none (.drw ns1 n1), .own none (.mrk [] []), .val (.str "1/2"), .val (.tuple [.int 10, .int 10, .int 1]), .val (iD i), .val (.str (text (A3 i))), .un, .un, .un] := by kernel_rfl
      refine lc1a (fun k : Nat => PyData.int (k : Int)) (fun _ => PyData.str "done") (List.range 14) (Γ1 := [.un, .own none (.drw ns1 n1), .own none (.mrk [] []), .val (.str "1/2"), .val (.tuple [.int 10, .int 10, .int 1]), .val (iD i), .val (.str (text (A3 i))), .un, .un, .un]) rg' (by decide) (by simp) rfl fun k hk => ⟨.val (.str "done"), ?_, rfl⟩
      obtain ⟨r, hr⟩ := text_call hi k (List.mem_range.mp hk)
      have ev := asked1 (b := .int 0) hr
      generalize text (A3 i) = z at *
      simp [retV_of ev]
    have t1 : (tst (bin dIsNot (callV 1 g_is_text (aLast (sto (eVar 6)))) (eC (.bool true)))) [.un, .own none (.drw ns1 n1), .own none (.mrk [] []), .val (.str "1/2"), .val (.tuple [.int 10, .int 10, .int 1]), .val (iD i), .val (.str (text (A3 i))), .un, .un, .un] = .ok false [.un, .own none (.drw ns1 n1), .own none (.mrk [] []), .val (.str "1/2"), .val (.tuple [.int 10, .int 10, .int 1]), .val (iD i), .val (.str (text (A3 i))), .un, .un, .un] := by
      have d : dIsNot (.bool true) (.bool true) = some (.val (.bool false)) := rfl
      generalize text (A3 i) = z at *
      simp [retV_of q, d]
    have t2 : (tst (bin dNe (lcM (iRg rg1 (aLast (eC (.int 14)))) (tgN 8) (M.ret true) (callV 4 g_L_askedM (aCons (sto (eC (.int 1))) (aCons (sto (eVar 8)) (aCons (sto (eVar 6)) (aLast (sto (eC (.int 0)))))))) [8]) (bin dMulA (mkLst (aLast (sto (eC (.str "done"))))) (eC (.int 14))))) [.un, .own none (.drw ns1 n1), .own none (.mrk [] []), .val (.str "1/2"), .val (.tuple [.int 10, .int 10, .int 1]), .val (iD i), .val (.str (text (A3 i))), .un, .un, .un] = .ok false [.un, .own none (.drw ns1 n1), .own none (.mrk [] []), .val (.str "1/2"), .val (.tuple [.int 10, .int 10, .int 1]), .val (iD i), .val (.str (text (A3 i))), .un, .un, .un] := by
      rw [tst_congr (f' := fun Γ => .ok (.own (.lst ((List.range 14).map fun _ => PyData.str "done"))) Γ) lc]
      generalize text (A3 i) = z at *
      kernel_rfl
    have t3 : (tst (bin dNe (lcM (iSq (mkTup (aCons (sto (eC .none)) (aCons (sto (eC (.int 5))) (aCons (sto (mkLst (aLast (sto (eC (.str "1")))))) (aLast (sto (eC (.str "x"))))))))) (tgN 3) (M.ret true) (callV 4 g_L_askedM (aCons (sto (eC (.int 2))) (aCons (sto (eC (.int 7))) (aCons (sto (eVar 3)) (aLast (sto (eC (.int 0)))))))) [3]) (bin dAdd (bin dMulA (mkLst (aLast (sto (eC (.str "text"))))) (eC (.int 3))) (mkLst (aLast (sto (eC (.str "done")))))))) [.un, .own none (.drw ns1 n1), .own none (.mrk [] []), .val (.str "1/2"), .val (.tuple [.int 10, .int 10, .int 1]), .val (iD i), .val (.str (text (A3 i))), .un, .un, .un] = .ok false [.un, .own none (.drw ns1 n1), .own none (.mrk [] []), .val (.str "1/2"), .val (.tuple [.int 10, .int 10, .int 1]), .val (iD i), .val (.str (text (A3 i))), .un, .un, .un] := by
      generalize text (A3 i) = z at *
      kernel_rfl
    have tt : (mOr (tst (bin dIsNot (callV 1 g_is_text (aLast (sto (eVar 6)))) (eC (.bool true)))) (mOr (tst (bin dNe (lcM (iRg rg1 (aLast (eC (.int 14)))) (tgN 8) (M.ret true) (callV 4 g_L_askedM (aCons (sto (eC (.int 1))) (aCons (sto (eVar 8)) (aCons (sto (eVar 6)) (aLast (sto (eC (.int 0)))))))) [8]) (bin dMulA (mkLst (aLast (sto (eC (.str "done"))))) (eC (.int 14))))) (tst (bin dNe (lcM (iSq (mkTup (aCons (sto (eC .none)) (aCons (sto (eC (.int 5))) (aCons (sto (mkLst (aLast (sto (eC (.str "1")))))) (aLast (sto (eC (.str "x"))))))))) (tgN 3) (M.ret true) (callV 4 g_L_askedM (aCons (sto (eC (.int 2))) (aCons (sto (eC (.int 7))) (aCons (sto (eVar 3)) (aLast (sto (eC (.int 0)))))))) [3]) (bin dAdd (bin dMulA (mkLst (aLast (sto (eC (.str "text"))))) (eC (.int 3))) (mkLst (aLast (sto (eC (.str "done")))))))))) [.un, .own none (.drw ns1 n1), .own none (.mrk [] []), .val (.str "1/2"), .val (.tuple [.int 10, .int 10, .int 1]), .val (iD i), .val (.str (text (A3 i))), .un, .un, .un] = .ok false [.un, .own none (.drw ns1 n1), .own none (.mrk [] []), .val (.str "1/2"), .val (.tuple [.int 10, .int 10, .int 1]), .val (iD i), .val (.str (text (A3 i))), .un, .un, .un] := by
      simp only [ap_mOr, t1, t2, t3, and_ok]
      rfl
    rw [ap_sIf, tt, and_ok, if_neg Bool.false_ne_true]
    rfl
  have s8 : (sIf (mOr (tst (bin dNe (eVar 7) (bin dAdd (bin dMulA (mkLst (aLast (sto (eC (.str "number"))))) (eC (.int 5))) (bin dMulA (mkLst (aLast (sto (eC (.str "done"))))) (eC (.int 2)))))) (tst (bin dNe (callV 4 g_L_askedM (aCons (sto (eC (.int 2))) (aCons (sto (eC (.int 5))) (aCons (sto (eC (.str "3"))) (aLast (sto (eC (.int 0)))))))) (eC (.str "none"))))) (sRet (eC (.bool false))) (sNx)) [.un, .own none (.drw ns1 n1), .own none (.mrk [] []), .val (.str "1/2"), .val (.tuple [.int 10, .int 10, .int 1]), .val (iD i), .val (.str (text (A3 i))), .val (.list [.str "number", .str "number", .str "number", .str "number", .str "number", .str "done", .str "done"]), .un, .un] = .ok .nx [.un, .own none (.drw ns1 n1), .own none (.mrk [] []), .val (.str "1/2"), .val (.tuple [.int 10, .int 10, .int 1]), .val (iD i), .val (.str (text (A3 i))), .val (.list [.str "number", .str "number", .str "number", .str "number", .str "number", .str "done", .str "done"]), .un, .un] := by
    generalize text (A3 i) = z at *
    kernel_rfl
  unfold m_law
  exact ⟨_, sq s0 (sq (F1 ns) (sq (F2 ns) (sq (F3 ns) (sq s4 (sq s5 (sq s6 (sq (slices (F7a ns1 n1) (F7b ns1 n1) (F7c ns1 n1) (F7d ns1 n1) i hi) (sq s8 (slices (F9a ns1 n1) (F9b ns1 n1) (F9c ns1 n1) (F9d ns1 n1) i hi)))))))))⟩
end Rt
open PySem PySem.W PySem.Calls PyProof.Rows
theorem PySem.Challenge.cw_rangetexts_k14_more_errors_holds : PySem.Challenge.rw_rangetexts_k14_more_errors.Holds := by
  w_on; o_law
  refine HandSHeadRun.head_any (r := OpenLaw.row PySem.Challenge.rw_rangetexts_k14_more_errors) (q := view (OpenLaw.row PySem.Challenge.rw_rangetexts_k14_more_errors).prog [67]) (H := Rt.hkL) (ob := Rt.obL) (M := 20000) (loose := Rt.looseL) (d := HandSHeadRun.topDef (OpenLaw.row PySem.Challenge.rw_rangetexts_k14_more_errors).prog 67) (kwd := []) Rt.obL_eq
    (by kernel_rfl) (fun s => by kernel_rfl) Rt.runL (by kernel_rfl) (by kernel_rfl) (by kernel_rfl) (by rfl) (by first | assumption | decide +kernel) (by decide +kernel) ⟨rfl, rfl, rfl, rfl, rfl, by decide +kernel⟩ ?hw ?hc
  case hw => w_witness2
  case hc =>
    refine L2.walk_ofE (l := PySem.Challenge.rw_rangetexts_k14_more_errors) (n := 63) (k := 30) (x := "script") (CX := L2.CX0) rfl (by decide) (by kernel_rfl) ⟨rfl, by decide, by decide⟩ ?F ?X
    case X => exact fun _ _ _ _ z => z
    case F =>
      intro w mg fa h Y G hmg0
      obtain ⟨K, KX, c⟩ := Y
      have hmg : mg ("law" : PySem.Str) = some (.ref fa) := by
        have e : (HandSHeadRun.topDef (OpenLaw.row PySem.Challenge.rw_rangetexts_k14_more_errors).prog 67).name = ("law" : PySem.Str) := by kernel_rfl
        rw [← e]
        exact hmg0
      have T := Rt.txt_of KX G c.t.d c.more
      have e := hmg.symm.trans T.g_law
      cases e
      obtain ⟨fd, hb, hF⟩ := Rt.ok_law (P := (PySem.Challenge.rw_rangetexts_k14_more_errors).prog) (w := w) T Rt.pure_law
      exact ⟨K, fd, Rt.spLaw K, KX, hb, fun H a ns hl _ hS => ⟨a, ns, rfl, hS, hl, fun _ => rfl⟩, fun base _ _ => hF base⟩
