import PyProof.Rows.All
import Wide.All
import OpenK.AllK
import Wide.FinOn
import HandS.ForMost
import HandS.IsInst
import HandS.TupAny
import HandS.Wide
import KE.DataEq
import KE.DataCmp
import KE.DataMinMax
import KE.DataAny
import KE.DataFind
import KE.SortData
import KE.DataIsa
import HandS.Conv
import HandS.Style
import HandS.More
import HandS.Sort
import HandS.SetFor
import HandS.Zip
import PySem.Challenge.RW_coinwell_k44_whole_coins_that_double
set_option Elab.async false
set_option linter.all false
set_option maxRecDepth 100000
namespace DL
open PySem PySem.Spec L2

/-! ### data without a heap -/
abbrev D := PyData
def kD : Key → D
  | .inl i => .int i
  | .inr x => .str x
def kT (k : List Key) : D := .tuple (k.map kD)

mutual
inductive Rep (F : Hp) : V → D → Prop
  | non : Rep F .non .none
  | bl (b : Bool) : Rep F (.bl b) (.bool b)
  | int (i : Int) : Rep F (.int i) (.int i)
  | str (x : Str) : Rep F (.str x) (.str x)
  | tup {a : Addr} {vs : List V} {ds : List D} : F a = some (.tup vs) → Reps F vs ds → Rep F (.ref a) (.tuple ds)
  | lst {a : Addr} {vs : List V} {ds : List D} : F a = some (.lst vs) → Reps F vs ds → Rep F (.ref a) (.list ds)
  | dic {a : Addr} {kvs : List (Key × V)} {ds : List (D × D)} : F a = some (.dK kvs) → RepsK F kvs ds → Rep F (.ref a) (.dict ds)
  | dit {a : Addr} {kvs : List (List Key × V)} {ds : List (D × D)} : F a = some (.dT kvs) → RepsT F kvs ds → Rep F (.ref a) (.dict ds)
inductive Reps (F : Hp) : List V → List D → Prop
  | nil : Reps F [] []
  | cons {v : V} {d : D} {vs : List V} {ds : List D} : Rep F v d → Reps F vs ds → Reps F (v :: vs) (d :: ds)
inductive RepsK (F : Hp) : List (Key × V) → List (D × D) → Prop
  | nil : RepsK F [] []
  | cons {k : Key} {v : V} {d : D} {vs : List (Key × V)} {ds : List (D × D)} : Rep F v d → RepsK F vs ds → RepsK F ((k, v) :: vs) ((kD k, d) :: ds)
inductive RepsT (F : Hp) : List (List Key × V) → List (D × D) → Prop
  | nil : RepsT F [] []
  | cons {k : List Key} {v : V} {d : D} {vs : List (List Key × V)} {ds : List (D × D)} : Rep F v d → RepsT F vs ds → RepsT F ((k, v) :: vs) ((kT k, d) :: ds)
end

def Sb (F H : Hp) : Prop := ∀ a o, F a = some o → H a = some o
theorem Sb.refl (F : Hp) : Sb F F := fun _ _ h => h
theorem Sb.trans {F G H : Hp} (a : Sb F G) (b : Sb G H) : Sb F H := fun c o h => b c o (a c o h)
theorem Sb.free {F H : Hp} (s : Sb F H) {a : Addr} (h : H a = none) : F a = none := by
  cases q : F a with
  | none => rfl
  | some o => rw [s a o q] at h; cases h
theorem Sb.updS {F H : Hp} (s : Sb F H) {a : Addr} {o : HO} (h : F a = none) : Sb F (upd H a o) := fun b u e => by
  rw [upd_ne (ne_of_none e h)]; exact s b u e
theorem sb_upd {F : Hp} {a : Addr} {o : HO} (h : F a = none) : Sb F (upd F a o) := (Sb.refl F).updS h
theorem Sb.updI {F H : Hp} (s : Sb F H) {a : Addr} {o : HO} (h : H a = some o) : Sb (upd F a o) H := fun b u e => by
  by_cases q : b = a
  · subst q; rw [upd_same] at e; cases e; exact h
  · rw [upd_ne q] at e; exact s b u e
theorem Sb.updB {F H : Hp} (s : Sb F H) {a : Addr} {o : HO} : Sb (L2.upd F a o) (L2.upd H a o) := fun b u e => by
  by_cases q : b = a
  · subst q; rw [upd_same] at e ⊢; exact e
  · rw [upd_ne q] at e ⊢; exact s b u e

theorem Rep.mono {F F' : Hp} (s : Sb F F') {v : V} {d : D} (h : Rep F v d) : Rep F' v d :=
  Rep.rec (motive_1 := fun v d _ => Rep F' v d) (motive_2 := fun v d _ => Reps F' v d) (motive_3 := fun v d _ => RepsK F' v d) (motive_4 := fun v d _ => RepsT F' v d)
    .non .bl .int .str (fun e _ ih => .tup (s _ _ e) ih) (fun e _ ih => .lst (s _ _ e) ih) (fun e _ ih => .dic (s _ _ e) ih) (fun e _ ih => .dit (s _ _ e) ih)
    .nil (fun _ _ a b => .cons a b) .nil (fun _ _ a b => .cons a b) .nil (fun _ _ a b => .cons a b) h
theorem Reps.mono {F F' : Hp} (s : Sb F F') : ∀ {v : List V} {d : List D}, Reps F v d → Reps F' v d
  | _, _, .nil => .nil
  | _, _, .cons a b => .cons (a.mono s) (Reps.mono s b)
theorem RepsK.mono {F F' : Hp} (s : Sb F F') : ∀ {v : List (Key × V)} {d : List (D × D)}, RepsK F v d → RepsK F' v d
  | _, _, .nil => .nil
  | _, _, .cons a b => .cons (a.mono s) (RepsK.mono s b)
theorem RepsT.mono {F F' : Hp} (s : Sb F F') : ∀ {v : List (List Key × V)} {d : List (D × D)}, RepsT F v d → RepsT F' v d
  | _, _, .nil => .nil
  | _, _, .cons a b => .cons (a.mono s) (RepsT.mono s b)
theorem Reps.len {F : Hp} : ∀ {vs : List V} {ds : List D}, Reps F vs ds → vs.length = ds.length
  | _, _, .nil => rfl
  | _, _, .cons _ b => by rw [List.length_cons, List.length_cons, Reps.len b]
theorem Reps.get {F : Hp} : ∀ {vs : List V} {ds : List D} {i : Nat} {d : D}, Reps F vs ds → ds[i]? = some d → ∃ v, vs[i]? = some v ∧ Rep F v d
  | _, _, _, _, .nil, e => by simp at e
  | _, _, 0, _, .cons a b, e => by simp at e; subst e; exact ⟨_, rfl, a⟩
  | _, _, i + 1, d, .cons a b, e => by
    obtain ⟨v, h1, h2⟩ := Reps.get (i := i) (d := d) b (by simpa using e)
    exact ⟨v, by simpa using h1, h2⟩
theorem Reps.app {F : Hp} : ∀ {vs ws : List V} {ds es : List D}, Reps F vs ds → Reps F ws es → Reps F (vs ++ ws) (ds ++ es)
  | _, _, _, _, .nil, s => s
  | _, _, _, _, .cons r t, s => .cons r (Reps.app t s)
theorem Reps.take {F : Hp} : ∀ {vs : List V} {ds : List D} (n : Nat), Reps F vs ds → Reps F (vs.take n) (ds.take n)
  | _, _, 0, _ => .nil
  | _, _, _ + 1, .nil => .nil
  | _, _, n + 1, .cons r t => .cons r (Reps.take n t)
theorem Reps.drop {F : Hp} : ∀ {vs : List V} {ds : List D} (n : Nat), Reps F vs ds → Reps F (vs.drop n) (ds.drop n)
  | _, _, 0, r => r
  | _, _, _ + 1, .nil => .nil
  | _, _, n + 1, .cons r t => Reps.drop n t
theorem Reps.set {F : Hp} {v : V} {d : D} (r : Rep F v d) : ∀ {vs : List V} {ds : List D} (n : Nat), Reps F vs ds → Reps F (vs.set n v) (ds.set n d)
  | _, _, _, .nil => .nil
  | _, _, 0, .cons _ t => .cons r t
  | _, _, n + 1, .cons q t => .cons q (Reps.set r n t)
theorem Reps.rev {F : Hp} : ∀ {vs : List V} {ds : List D}, Reps F vs ds → Reps F vs.reverse ds.reverse
  | _, _, .nil => .nil
  | _, _, .cons r t => by rw [List.reverse_cons, List.reverse_cons]; exact (Reps.rev t).app (.cons r .nil)
theorem Reps.ints {F : Hp} : ∀ (l : List Int), Reps F (l.map V.int) (l.map PyData.int)
  | [] => .nil
  | i :: r => .cons (.int i) (Reps.ints r)

/-! ### slots, states -/
inductive Sl where
  | un | fr (d : D) | own (d : D) | rd (d : D) | scr (l : List Int)
abbrev En := List Sl

/-- the top object of data, its inner parts in F -/
def TopAt (F H : Hp) (p : Addr) : D → Prop
  | .list l => ∃ vs, H p = some (.lst vs) ∧ Reps F vs l
  | .dict l => (∃ vs, H p = some (.dK vs) ∧ RepsK F vs l) ∨ ∃ vs, H p = some (.dT vs) ∧ RepsT F vs l
  | _ => False
theorem TopAt.mono {F F' H H' : Hp} {p : Addr} (s : Sb F F') (t : ∀ o, H p = some o → H' p = some o) : ∀ {d : D}, TopAt F H p d → TopAt F' H' p d
  | .list l, ⟨vs, a, b⟩ => ⟨vs, t _ a, b.mono s⟩
  | .dict l, .inl ⟨vs, a, b⟩ => .inl ⟨vs, t _ a, b.mono s⟩
  | .dict l, .inr ⟨vs, a, b⟩ => .inr ⟨vs, t _ a, b.mono s⟩
  | .none, h | .bool _, h | .int _, h | .str _, h | .tuple _, h => h.elim
theorem TopAt.ex {F H : Hp} {p : Addr} : ∀ {d : D}, TopAt F H p d → ∃ o, H p = some o
  | .list l, ⟨_, a, _⟩ => ⟨_, a⟩
  | .dict l, .inl ⟨_, a, _⟩ => ⟨_, a⟩
  | .dict l, .inr ⟨_, a, _⟩ => ⟨_, a⟩
  | .none, h | .bool _, h | .int _, h | .str _, h | .tuple _, h => h.elim
/-- in F itself it is data -/
theorem TopAt.rep {F H : Hp} {p : Addr} {o : HO} (hF : F p = none) (hp : H p = some o) : ∀ {d : D}, TopAt F H p d → Rep (upd F p o) (.ref p) d
  | .list l, ⟨vs, a, b⟩ => .lst (by rw [upd_same, ← hp, a]) (b.mono (sb_upd hF))
  | .dict l, .inl ⟨vs, a, b⟩ => .dic (by rw [upd_same, ← hp, a]) (b.mono (sb_upd hF))
  | .dict l, .inr ⟨vs, a, b⟩ => .dit (by rw [upd_same, ← hp, a]) (b.mono (sb_upd hF))
  | .none, h | .bool _, h | .int _, h | .str _, h | .tuple _, h => h.elim

def SlOk (K : PySem.W.Frag) (B0 B F H : Hp) (x : Option (Option V)) : Sl → Prop
  | .un => True
  | .fr d => ∃ v, x = some (some v) ∧ Rep F v d
  | .own d => ∃ p, x = some (some (V.ref p)) ∧ F p = none ∧ B p = none ∧ TopAt F H p d
  | .rd d => ∃ p, x = some (some (V.ref p)) ∧ TopAt F B0 p d
  | .scr l => ∃ p, x = some (some (V.ref p)) ∧ SqL K B0 p (l.map V.int)
def ownS : Option Sl → Bool
  | some (.own _) => true
  | _ => false
structure SOk (K : PySem.W.Frag) (B0 B F : Hp) (ρ : En) (σ : List (Option V)) (H : Hp) : Prop where
  bb : Sb B0 B
  bh : Sb B H
  fh : Sb F H
  len : ρ.length = σ.length
  slot : ∀ (i : Nat) (sl : Sl), ρ[i]? = some sl → SlOk K B0 B F H (σ[i]?) sl
  sep : ∀ (i j : Nat) (p : Addr), i ≠ j → ownS ρ[i]? = true → ownS ρ[j]? = true → σ[i]? = some (some (V.ref p)) → σ[j]? = some (some (V.ref p)) → False
/-- what is frozen anew is new -/
def Ext (B F F' : Hp) : Prop := Sb F F' ∧ ∀ a o, B a = some o → F a = none → F' a = none
theorem Ext.refl (B F : Hp) : Ext B F F := ⟨Sb.refl F, fun _ _ _ h => h⟩
theorem Ext.trans {B F G H : Hp} (a : Ext B F G) (b : Ext B G H) : Ext B F H := ⟨a.1.trans b.1, fun c o h1 h2 => b.2 c o h1 (a.2 c o h1 h2)⟩
theorem Ext.weak {B B' F G : Hp} (s : Sb B B') (a : Ext B' F G) : Ext B F G := ⟨a.1, fun c o h1 h2 => a.2 c o (s c o h1) h2⟩

/-- what an expression hands on: data in F, a new object, the content of a slot -/
inductive Rv where
  | rep (d : D) | new (d : D) | bor (i : Nat)
def notOwn (ρ : En) (σ : List (Option V)) (p : Addr) : Prop := ∀ i : Nat, ownS ρ[i]? = true → σ[i]? ≠ some (some (V.ref p))
def RvOk (K : PySem.W.Frag) (B0 B F : Hp) (ρ : En) (σ : List (Option V)) (H : Hp) (v : V) : Rv → Prop
  | .rep d => Rep F v d
  | .new d => ∃ p, v = .ref p ∧ F p = none ∧ B p = none ∧ TopAt F H p d ∧ notOwn ρ σ p
  | .bor i => σ[i]? = some (some v)
/-- an operand as it is seen: frozen, or a readable top -/
def Seen (F H : Hp) (v : V) (d : D) : Prop := Rep F v d ∨ ∃ p, v = .ref p ∧ TopAt F H p d
def see (ρ : En) : Rv → Option D
  | .rep d => some d
  | .new d => some d
  | .bor i => match ρ[i]? with
    | some (.fr d) => some d
    | some (.own d) => some d
    | some (.rd d) => some d
    | _ => none
theorem SOk.seen {K : PySem.W.Frag} {B0 B F : Hp} {ρ : En} {σ : List (Option V)} {H : Hp} (S : SOk K B0 B F ρ σ H) {v : V} {r : Rv} {d : D} (h : RvOk K B0 B F ρ σ H v r) (e : see ρ r = some d) : Seen F H v d := by
  cases r with
  | rep d' => cases e; exact .inl h
  | new d' => cases e; obtain ⟨p, h1, _, _, h4, _⟩ := h; exact .inr ⟨p, h1, h4⟩
  | bor i =>
    have h : σ[i]? = some (some v) := h
    unfold see at e
    simp only at e
    split at e <;> cases e
    · rename_i q
      obtain ⟨w, e1, r⟩ := S.slot i _ q
      rw [h] at e1; cases e1; exact .inl r
    · rename_i q
      obtain ⟨p, e1, _, _, t⟩ := S.slot i _ q
      rw [h] at e1; cases e1; exact .inr ⟨p, rfl, t⟩
    · rename_i q
      obtain ⟨p, e1, t⟩ := S.slot i _ q
      rw [h] at e1; cases e1; exact .inr ⟨p, rfl, t.mono (Sb.refl F) fun o e => S.bh _ _ (S.bb _ _ e)⟩

section
variable {K : PySem.W.Frag} {B0 B F F' : Hp} {ρ : En} {σ : List (Option V)} {H H' : Hp} {p : Addr} {o : HO} {v : V} {d : D}
theorem SOk.isSome (S : SOk K B0 B F ρ σ H) {i : Nat} (h : ownS ρ[i]? = true) (e : σ[i]? = some (some (V.ref p))) : F p = none ∧ B p = none ∧ ∃ d, ρ[i]? = some (.own d) ∧ TopAt F H p d := by
  cases q : ρ[i]? with
  | none => rw [q] at h; cases h
  | some sl =>
    cases sl with
    | own d =>
      obtain ⟨p', e1, a, b, t⟩ := S.slot i _ q
      rw [e] at e1; cases e1
      exact ⟨a, b, d, rfl, t⟩
    | _ => rw [q] at h; cases h
/-- a new object is laid -/
theorem SOk.alloc (S : SOk K B0 B F ρ σ H) (hp : H p = none) : SOk K B0 B F ρ σ (upd H p o) where
  bb := S.bb
  bh := S.bh.updS (S.bh.free hp)
  fh := S.fh.updS (S.fh.free hp)
  len := S.len
  slot := fun i sl e => by
    have q := S.slot i sl e
    cases sl with
    | own d =>
      obtain ⟨p', e1, a, b, t⟩ := q
      obtain ⟨o', eo⟩ := t.ex
      exact ⟨p', e1, a, b, t.mono (Sb.refl F) fun u e => by rw [upd_ne (ne_of_none e hp)]; exact e⟩
    | _ => exact q
  sep := S.sep
theorem notOwn_new (S : SOk K B0 B F ρ σ H) (hp : H p = none) : notOwn ρ σ p := fun i h e => by
  obtain ⟨_, _, d, _, t⟩ := S.isSome h e
  obtain ⟨o, q⟩ := t.ex
  rw [hp] at q; cases q
/-- a new object is protected for a while -/
theorem SOk.prot (S : SOk K B0 B F ρ σ H) (hp : H p = some o) (hB : B p = none) (hn : notOwn ρ σ p) : SOk K B0 (upd B p o) F ρ σ H where
  bb := S.bb.updS (S.bb.free hB)
  bh := S.bh.updI hp
  fh := S.fh
  len := S.len
  slot := fun i sl e => by
    have q := S.slot i sl e
    cases sl with
    | own d =>
      obtain ⟨p', e1, a, b, t⟩ := q
      refine ⟨p', e1, a, ?_, t⟩
      rw [upd_ne fun z => hn i (by rw [e]; rfl) (by rw [e1, z])]
      exact b
    | _ => exact q
  sep := S.sep
theorem SOk.weak {B' : Hp} (S : SOk K B0 B' F ρ σ H) (s0 : Sb B0 B) (s : Sb B B') : SOk K B0 B F ρ σ H where
  bb := s0
  bh := s.trans S.bh
  fh := S.fh
  len := S.len
  slot := fun i sl e => by
    have q := S.slot i sl e
    cases sl with
    | own d =>
      obtain ⟨p', e1, a, b, t⟩ := q
      exact ⟨p', e1, a, s.free b, t⟩
    | _ => exact q
  sep := S.sep
/-- an object that nobody owns is frozen -/
theorem SOk.freeze (S : SOk K B0 B F ρ σ H) (hp : H p = some o) (hF : F p = none) (hn : notOwn ρ σ p) : SOk K B0 B (upd F p o) ρ σ H where
  bb := S.bb
  bh := S.bh
  fh := S.fh.updI hp
  len := S.len
  slot := fun i sl e => by
    have q := S.slot i sl e
    cases sl with
    | fr d => obtain ⟨v, e1, r⟩ := q; exact ⟨v, e1, r.mono (sb_upd hF)⟩
    | own d =>
      obtain ⟨p', e1, a, b, t⟩ := q
      refine ⟨p', e1, ?_, b, t.mono (sb_upd hF) fun _ e => e⟩
      rw [upd_ne fun z => hn i (by rw [e]; rfl) (by rw [e1, z])]
      exact a
    | rd d => obtain ⟨p', e1, t⟩ := q; exact ⟨p', e1, t.mono (sb_upd hF) fun _ e => e⟩
    | _ => exact q
  sep := S.sep
theorem ext_freeze (hF : F p = none) (hB : B p = none) : Ext B F (upd F p o) := ⟨sb_upd hF, fun c u e1 e2 => by rw [upd_ne (ne_of_none e1 hB)]; exact e2⟩
theorem getElem?_setD {ρ : En} {i j : Nat} {x sl : Sl} (h : (ρ.set i x)[j]? = some sl) : (j = i ∧ sl = x) ∨ (j ≠ i ∧ ρ[j]? = some sl) := by
  by_cases q : j = i
  · subst q
    by_cases l : j < ρ.length
    · rw [List.getElem?_set_self l] at h; cases h; exact .inl ⟨rfl, rfl⟩
    · rw [List.getElem?_eq_none_iff.mpr (by rw [List.length_set]; omega)] at h; cases h
  · rw [List.getElem?_set_ne (Ne.symm q)] at h; exact .inr ⟨q, h⟩
theorem ownS_set {ρ : En} {i j : Nat} {x : Sl} (h : ownS (ρ.set i x)[j]? = true) : (j = i ∧ ownS (some x) = true) ∨ (j ≠ i ∧ ownS ρ[j]? = true) := by
  cases q : (ρ.set i x)[j]? with
  | none => rw [q] at h; cases h
  | some sl =>
    rw [q] at h
    rcases getElem?_setD q with ⟨a, rfl⟩ | ⟨a, b⟩
    · exact .inl ⟨a, h⟩
    · exact .inr ⟨a, by rw [b]; exact h⟩
/-- a slot's mark changes, not its value, to what it satisfies and no owner -/
theorem SOk.mark (S : SOk K B0 B F ρ σ H) {i : Nat} {x : Sl} (hx : ownS (some x) = false) (ok : SlOk K B0 B F H (σ[i]?) x) : SOk K B0 B F (ρ.set i x) σ H where
  bb := S.bb
  bh := S.bh
  fh := S.fh
  len := by rw [List.length_set]; exact S.len
  slot := fun j sl e => by
    rcases getElem?_setD e with ⟨a, rfl⟩ | ⟨a, b⟩
    · subst a; exact ok
    · exact S.slot j sl b
  sep := fun a b q ne h1 h2 => by
    rcases ownS_set h1 with ⟨_, z⟩ | ⟨_, z⟩
    · rw [hx] at z; cases z
    · rcases ownS_set h2 with ⟨_, y⟩ | ⟨_, y⟩
      · rw [hx] at y; cases y
      · exact S.sep a b q ne z y
/-- a slot is stored -/
theorem SOk.store (S : SOk K B0 B F ρ σ H) {i : Nat} {x : Sl} (hi : i < σ.length) (ok : SlOk K B0 B F H (some (some v)) x) (hn : ownS (some x) = true → ∀ p, v = .ref p → notOwn ρ σ p) : SOk K B0 B F (ρ.set i x) (σ.set i (some v)) H where
  bb := S.bb
  bh := S.bh
  fh := S.fh
  len := by rw [List.length_set, List.length_set]; exact S.len
  slot := fun j sl e => by
    rcases getElem?_setD e with ⟨a, rfl⟩ | ⟨a, b⟩
    · subst a; rw [List.getElem?_set_self hi]; exact ok
    · rw [List.getElem?_set_ne (Ne.symm a)]; exact S.slot j sl b
  sep := fun a b q ne h1 h2 e1 e2 => by
    rcases ownS_set h1 with ⟨a1, z⟩ | ⟨a1, z⟩
    · subst a1
      rw [List.getElem?_set_self hi] at e1
      cases e1
      rcases ownS_set h2 with ⟨b1, _⟩ | ⟨b1, y⟩
      · exact ne b1.symm
      · rw [List.getElem?_set_ne (Ne.symm b1)] at e2
        exact hn z q rfl b y e2
    · rw [List.getElem?_set_ne (Ne.symm a1)] at e1
      rcases ownS_set h2 with ⟨b1, y⟩ | ⟨b1, y⟩
      · subst b1
        rw [List.getElem?_set_self hi] at e2
        cases e2
        exact hn y q rfl a z e1
      · rw [List.getElem?_set_ne (Ne.symm b1)] at e2
        exact S.sep a b q ne z y e1 e2
/-- the content of an owned slot changes -/
theorem SOk.write (S : SOk K B0 B F ρ σ H) {i : Nat} {d d' : D} (hs : ρ[i]? = some (.own d)) (e : σ[i]? = some (some (V.ref p))) (t : TopAt F (upd H p o) p d') : SOk K B0 B F (ρ.set i (.own d')) σ (upd H p o) := by
  obtain ⟨p', e1, a, b, t0⟩ := S.slot i _ hs
  rw [e] at e1; cases e1
  have nu : ∀ {G : Hp}, G p = none → Sb G H → Sb G (upd H p o) := fun g s => s.updS g
  refine ⟨S.bb, S.bh.updS b, S.fh.updS a, by rw [List.length_set]; exact S.len, fun j sl ej => ?_, fun x y q ne h1 h2 e1 e2 => ?_⟩
  · rcases getElem?_setD ej with ⟨z, rfl⟩ | ⟨z, y⟩
    · subst z; exact ⟨p, e, a, b, t⟩
    · have q := S.slot j sl y
      cases sl with
      | own d2 =>
        obtain ⟨p2, e2, a2, b2, t2⟩ := q
        refine ⟨p2, e2, a2, b2, t2.mono (Sb.refl F) fun u eu => ?_⟩
        rw [upd_ne fun w => S.sep j i p z (by rw [y]; rfl) (by rw [hs]; rfl) (by rw [e2, w]) e]
        exact eu
      | _ => exact q
  · have tr : ∀ {k : Nat}, ownS (ρ.set i (.own d'))[k]? = true → ownS ρ[k]? = true := fun {k} h => by
      rcases ownS_set h with ⟨a, _⟩ | ⟨_, b⟩
      · subst a; rw [hs]; rfl
      · exact b
    exact S.sep x y q ne (tr h1) (tr h2) e1 e2
end

/-! ### the monad -/
abbrev M (α : Type) := En → Option (α × En)
@[reducible] def pur {α : Type} (a : α) : M α := fun ρ => some (a, ρ)
def bnd {α β : Type} (x : M α) (f : α → M β) : M β := fun ρ => match x ρ with
  | none => none
  | some (a, ρ') => f a ρ'
def lft {α : Type} (x : Option α) : M α := fun ρ => match x with
  | none => none
  | some a => some (a, ρ)
def opt {α β : Type} (x : Option α) (f : α → Option β) : Option β := match x with
  | none => none
  | some a => f a
theorem bnd_some {α β : Type} {x : M α} {f : α → M β} {ρ ρ' : En} {b : β} (h : bnd x f ρ = some (b, ρ')) : ∃ a ρ1, x ρ = some (a, ρ1) ∧ f a ρ1 = some (b, ρ') := by
  unfold bnd at h
  split at h
  · cases h
  · exact ⟨_, _, by assumption, h⟩
theorem lft_some {α : Type} {x : Option α} {ρ ρ' : En} {a : α} (h : lft x ρ = some (a, ρ')) : x = some a ∧ ρ' = ρ := by
  unfold lft at h
  split at h
  · cases h
  · cases h; exact ⟨rfl, rfl⟩
theorem opt_some {α β : Type} {x : Option α} {f : α → Option β} {b : β} (h : opt x f = some b) : ∃ a, x = some a ∧ f a = some b := by
  unfold opt at h
  split at h
  · cases h
  · exact ⟨_, rfl, h⟩
/-- what is handed on is kept as data -/
def keep (r : Rv) : M D := fun ρ => match r with
  | .rep d => some (d, ρ)
  | .new d => some (d, ρ)
  | .bor i => match ρ[i]? with
    | some (.fr d) => some (d, ρ)
    | some (.own d) => some (d, ρ.set i (.fr d))
    | _ => none
def seeM (r : Rv) : M D := fun ρ => match see ρ r with
  | none => none
  | some d => some (d, ρ)
theorem seeM_some {r : Rv} {ρ ρ' : En} {d : D} (h : seeM r ρ = some (d, ρ')) : see ρ r = some d ∧ ρ' = ρ := by
  unfold seeM at h
  split at h
  · cases h
  · cases h; exact ⟨by assumption, rfl⟩

section
variable {K : PySem.W.Frag} {B0 B F : Hp} {ρ ρ' : En} {σ : List (Option V)} {H : Hp} {p : Addr} {o : HO} {v : V} {d : D}
theorem new_rep (S : SOk K B0 B F ρ σ H) (h : RvOk K B0 B F ρ σ H v (.new d)) : ∃ F', Ext B F F' ∧ SOk K B0 B F' ρ σ H ∧ Rep F' v d := by
  obtain ⟨p, rfl, hF, hB, t, hn⟩ := h
  obtain ⟨o, ho⟩ := t.ex
  exact ⟨_, ext_freeze hF hB, S.freeze ho hF hn, t.rep hF ho⟩
theorem keep_ok {r : Rv} (S : SOk K B0 B F ρ σ H) (h : RvOk K B0 B F ρ σ H v r) (e : keep r ρ = some (d, ρ')) : ∃ F', Ext B F F' ∧ SOk K B0 B F' ρ' σ H ∧ Rep F' v d := by
  cases r with
  | rep d' => cases e; exact ⟨F, Ext.refl B F, S, h⟩
  | new d' => cases e; exact new_rep S h
  | bor i =>
    have h : σ[i]? = some (some v) := h
    simp only [keep] at e
    split at e <;> cases e
    · rename_i q
      obtain ⟨w, e1, r⟩ := S.slot i _ q
      rw [h] at e1; cases e1
      exact ⟨F, Ext.refl B F, S, r⟩
    · rename_i q
      obtain ⟨p, e1, hF, hB, t⟩ := S.slot i _ q
      rw [h] at e1; cases e1
      obtain ⟨o, ho⟩ := t.ex
      have S1 : SOk K B0 B F (ρ.set i .un) σ H := S.mark rfl trivial
      have hn : notOwn (ρ.set i .un) σ p := fun j hj ej => by
        rcases ownS_set hj with ⟨_, z⟩ | ⟨z, y⟩
        · cases z
        · exact S.sep j i p z y (by rw [q]; rfl) ej h
      have S2 := S1.freeze ho hF hn
      have S3 := S2.mark (i := i) (x := .fr d) rfl ⟨_, h, t.rep hF ho⟩
      rw [List.set_set] at S3
      exact ⟨_, ext_freeze hF hB, S3, t.rep hF ho⟩
/-- a pending operand stays -/
theorem RvOk.stay {F' : Hp} {ρ' : En} {H' : Hp} {r : Rv} (h : RvOk K B0 B F ρ σ H v r) (x : Ext B F F') (hb : ∀ d, r ≠ .new d) : RvOk K B0 B F' ρ' σ H' v r := by
  cases r with
  | rep d => exact Rep.mono x.1 h
  | new d => exact absurd rfl (hb d)
  | bor i => exact h
end
end DL
set_option Elab.async false
set_option linter.all false
set_option maxRecDepth 100000
namespace DL
open PySem PySem.Spec L2

/-! ### readings as functions -/
def RdE (K : PySem.W.Frag) (t : TE) (τ : M Rv) : Prop := ∀ (B0 B F : Hp) (ρ : En) (σ : List (Option V)) (H : Hp) (Q : VK) (r : Rv) (ρ' : En), SOk K B0 B F ρ σ H → τ ρ = some (r, ρ') →
  (∀ v F' H', Ext B F F' → SOk K B0 B F' ρ' σ H' → RvOk K B0 B F' ρ' σ H' v r → Q v H') → t σ H Q
def RdT (K : PySem.W.Frag) (t : TT) (τ : M Bool) : Prop := ∀ (B0 B F : Hp) (ρ : En) (σ : List (Option V)) (H : Hp) (Q : Bool → Hp → Prop) (b : Bool) (ρ' : En), SOk K B0 B F ρ σ H → τ ρ = some (b, ρ') →
  (∀ F' H', Ext B F F' → SOk K B0 B F' ρ' σ H' → Q b H') → t σ H Q
structure DX (X : Cx) (e : Expr) (τ : M Rv) : Prop where
  ex : ∃ t, PE X e t ∧ RdE X.K t τ
structure DT (X : Cx) (e : Expr) (τ : M Bool) : Prop where
  ex : ∃ t, PT X e t ∧ RdT X.K t τ
structure XOk (X : Cx) : Prop where
  nd : X.N.Nodup
  calm : X.calm = true
  pass : PassesOwn (model X.prog X.w) X.A X.env X.xe
  un : X.A.units + 64 < cLine

section
variable {K : PySem.W.Frag} {B0 B F : Hp} {ρ : En} {σ : List (Option V)} {H : Hp} {v : V} {d : D}
theorem Seen.mono {F' H' : Hp} (h : Seen F H v d) (s : Sb F F') (t : ∀ p o, v = .ref p → H p = some o → F p = none → H' p = some o) (fh : Sb F H) (fh' : Sb F' H') : Seen F' H' v d := by
  rcases h with h | ⟨p, e, h⟩
  · exact .inl (h.mono s)
  · subst e
    refine .inr ⟨p, rfl, h.mono s fun o e => ?_⟩
    cases q : F p with
    | none => exact t p o rfl e q
    | some u =>
      have := fh p u q
      rw [e] at this; cases this
      exact fh' p o (s p _ q)
theorem Seen.int {i : Int} (h : Seen F H v (.int i)) : v = .int i := by
  rcases h with h | ⟨p, _, h⟩
  · cases h; rfl
  · exact h.elim
theorem Seen.bl {b : Bool} (h : Seen F H v (.bool b)) : v = .bl b := by
  rcases h with h | ⟨p, _, h⟩
  · cases h; rfl
  · exact h.elim
theorem Seen.non (h : Seen F H v .none) : v = .non := by
  rcases h with h | ⟨p, _, h⟩
  · cases h; rfl
  · exact h.elim
theorem Seen.str {x : Str} (h : Seen F H v (.str x)) : v = .str x := by
  rcases h with h | ⟨p, _, h⟩
  · cases h; rfl
  · exact h.elim
theorem Seen.lst {l : List D} (fh : Sb F H) (h : Seen F H v (.list l)) : ∃ p vs, v = .ref p ∧ H p = some (.lst vs) ∧ Reps F vs l := by
  rcases h with h | ⟨p, e, vs, a, b⟩
  · cases h with
    | lst a b => exact ⟨_, _, rfl, fh _ _ a, b⟩
  · exact ⟨p, vs, e, a, b⟩
theorem Seen.tup {l : List D} (h : Seen F H v (.tuple l)) : ∃ p vs, v = .ref p ∧ F p = some (.tup vs) ∧ Reps F vs l := by
  rcases h with h | ⟨p, e, h⟩
  · cases h with
    | tup a b => exact ⟨_, _, rfl, a, b⟩
  · exact h.elim
theorem Rep.dpr (h : Rep F v d) : d.plain = true → Dp K F v d :=
  Rep.rec (motive_1 := fun v d _ => d.plain = true → Dp K F v d) (motive_2 := fun v d _ => PyData.plainAll d = true → DpAll K F v d) (motive_3 := fun _ _ _ => True) (motive_4 := fun _ _ _ => True)
    (fun _ => .non) (fun b _ => .bl b) (fun i _ => .int i) (fun x _ => .str x) (fun e _ ih p => .tup (SqT.of e) (ih (by simpa [PyData.plain] using p))) (fun e _ ih p => .lst (SqL.of e) (ih (by simpa [PyData.plain] using p)))
    (fun _ _ _ p => by simp [PyData.plain] at p) (fun _ _ _ p => by simp [PyData.plain] at p)
    (fun _ => .nil) (fun _ _ a b p => by
      simp only [PyData.plainAll, Bool.and_eq_true] at p
      exact .cons (a p.1) (b p.2)) trivial (fun _ _ _ _ => trivial) trivial (fun _ _ _ _ => trivial) h
theorem Reps.dpr : ∀ {vs : List V} {ds : List D}, Reps F vs ds → PyData.plainAll ds = true → DpAll K F vs ds
  | _, _, .nil, _ => .nil
  | _, _, .cons a b, p => by
    simp only [PyData.plainAll, Bool.and_eq_true] at p
    exact .cons (a.dpr p.1) (Reps.dpr b p.2)
theorem SqT.sb {H : Hp} {a : Addr} {xs : List V} (s : Sb F H) (h : SqT K F a xs) : SqT K H a xs := by
  rcases h with (h | ⟨o, h⟩) | h
  · exact .inl (.inl (s _ _ h))
  · exact .inl (.inr ⟨o, s _ _ h⟩)
  · exact .inr h
theorem SqL.sb {H : Hp} {a : Addr} {xs : List V} (s : Sb F H) (h : SqL K F a xs) : SqL K H a xs := by
  rcases h with (h | ⟨o, h⟩) | h
  · exact .inl (.inl (s _ _ h))
  · exact .inl (.inr ⟨o, s _ _ h⟩)
  · exact .inr h
theorem Dp.sb {H : Hp} (s : Sb F H) (h : Dp K F v d) : Dp K H v d :=
  Dp.rec (motive_1 := fun v d _ => Dp K H v d) (motive_2 := fun v d _ => DpAll K H v d) .non .bl .int .str (fun a _ ih => .lst (SqL.sb s a) ih) (fun a _ ih => .tup (SqT.sb s a) ih) .nil (fun _ _ a b => .cons a b) h
theorem DpAll.sb {H : Hp} (s : Sb F H) : ∀ {vs : List V} {ds : List D}, DpAll K F vs ds → DpAll K H vs ds
  | _, _, .nil => .nil
  | _, _, .cons a b => .cons (Dp.sb s a) (DpAll.sb s b)
theorem Seen.dp (fh : Sb F H) (h : Seen F H v d) (p : d.plain = true) : Dp K H v d := by
  rcases h with h | ⟨q, e, h⟩
  · exact Dp.sb fh (h.dpr p)
  · subst e
    cases d with
    | list l =>
      obtain ⟨vs, a, b⟩ := h
      exact .lst (SqL.of a) (DpAll.sb fh (b.dpr (by simpa [PyData.plain] using p)))
    | dict l => simp [PyData.plain] at p
    | _ => exact h.elim

/-- two operands in a row, both seen at the end -/
theorem two {ta tb : TE} {τ1 τ2 : M Rv} {R : V → V → Hp → Prop} {r1 r2 : Rv} {ρ1 ρ2 : En} {a b : D} (ha : RdE K ta τ1) (hb : RdE K tb τ2) (S : SOk K B0 B F ρ σ H) (e1 : τ1 ρ = some (r1, ρ1)) (e2 : τ2 ρ1 = some (r2, ρ2))
    (s1 : see ρ2 r1 = some a) (s2 : see ρ2 r2 = some b) (q : ∀ x y F' H', Ext B F F' → SOk K B0 B F' ρ2 σ H' → Seen F' H' x a → Seen F' H' y b → R x y H') : ta σ H fun x H1 => tb σ H1 fun y H2 => R x y H2 := by
  refine ha B0 B F ρ σ H _ r1 ρ1 S e1 fun v1 F1 H1 x1 S1 k1 => ?_
  cases r1 with
  | rep d =>
    refine hb B0 B F1 ρ1 σ H1 _ r2 ρ2 S1 e2 fun v2 F2 H2 x2 S2 k2 => ?_
    exact q v1 v2 F2 H2 (x1.trans x2) S2 (S2.seen (show RvOk K B0 B F2 ρ2 σ H2 v1 (.rep d) from Rep.mono x2.1 k1) s1) (S2.seen k2 s2)
  | bor i =>
    refine hb B0 B F1 ρ1 σ H1 _ r2 ρ2 S1 e2 fun v2 F2 H2 x2 S2 k2 => ?_
    exact q v1 v2 F2 H2 (x1.trans x2) S2 (S2.seen (show RvOk K B0 B F2 ρ2 σ H2 v1 (.bor i) from k1) s1) (S2.seen k2 s2)
  | new d =>
    obtain ⟨p, rfl, hF, hB, t, hn⟩ := k1
    obtain ⟨o, ho⟩ := t.ex
    have sB : Sb B (upd B p o) := (Sb.refl B).updS hB
    refine hb B0 (upd B p o) F1 ρ1 σ H1 _ r2 ρ2 (S1.prot ho hB hn) e2 fun v2 F2 H2 x2 S2 k2 => ?_
    have S2' : SOk K B0 B F2 ρ2 σ H2 := S2.weak S.bb sB
    have hF2 : F2 p = none := x2.2 p o upd_same hF
    have ho2 : H2 p = some o := S2.bh p o upd_same
    have k2' : RvOk K B0 B F2 ρ2 σ H2 v2 r2 := by
      cases r2 with
      | rep d => exact k2
      | bor i => exact k2
      | new d => obtain ⟨p', e, f, b, t', n⟩ := k2; exact ⟨p', e, f, sB.free b, t', n⟩
    cases s1
    exact q _ v2 F2 H2 (x1.trans (x2.weak sB)) S2' (.inr ⟨p, rfl, t.mono x2.1 fun u e => by rw [ho] at e; cases e; exact ho2⟩) (S2'.seen k2' s2)
end

/-! ### operators -/
structure OpD (X : Cx) (f : Value → Value → Sem Value) (g : D → D → Option Rv) : Prop where
  ex : ∃ r : R2, OpR X f r ∧ ∀ (B0 B F : Hp) (ρ : En) (σ : List (Option V)) (H : Hp) (x y : V) (a b : D) (rv : Rv) (Q : VK), SOk X.K B0 B F ρ σ H → Seen F H x a → Seen F H y b → g a b = some rv →
    (∀ v F' H', Ext B F F' → SOk X.K B0 B F' ρ σ H' → RvOk X.K B0 B F' ρ σ H' v rv → Q v H') → r x y H Q
def opM (g : D → D → Option Rv) (τ1 τ2 : M Rv) : M Rv := bnd τ1 fun r1 => bnd τ2 fun r2 => bnd (seeM r1) fun a => bnd (seeM r2) fun b => lft (g a b)
section
variable {X : Cx} {a b : Expr} {pos : Pos} {τ1 τ2 : M Rv}
theorem opM_some {g : D → D → Option Rv} {ρ ρ' : En} {r : Rv} (h : opM g τ1 τ2 ρ = some (r, ρ')) : ∃ r1 ρ1 r2 d1 d2, τ1 ρ = some (r1, ρ1) ∧ τ2 ρ1 = some (r2, ρ') ∧ see ρ' r1 = some d1 ∧ see ρ' r2 = some d2 ∧ g d1 d2 = some r := by
  obtain ⟨r1, ρ1, e1, h⟩ := bnd_some h
  obtain ⟨r2, ρ2, e2, h⟩ := bnd_some h
  obtain ⟨d1, ρ3, e3, h⟩ := bnd_some h
  obtain ⟨d2, ρ4, e4, h⟩ := bnd_some h
  obtain ⟨e5, rfl⟩ := lft_some h
  obtain ⟨e4, rfl⟩ := seeM_some e4
  obtain ⟨e3, rfl⟩ := seeM_some e3
  exact ⟨r1, ρ1, r2, d1, d2, e1, e2, e3, e4, e5⟩
theorem op_rd {f : Value → Value → Sem Value} {g : D → D → Option Rv} {ta tb : TE} {r : R2} (hr : ∀ (B0 B F : Hp) (ρ : En) (σ : List (Option V)) (H : Hp) (x y : V) (a b : D) (rv : Rv) (Q : VK), SOk X.K B0 B F ρ σ H → Seen F H x a → Seen F H y b → g a b = some rv →
    (∀ v F' H', Ext B F F' → SOk X.K B0 B F' ρ σ H' → RvOk X.K B0 B F' ρ σ H' v rv → Q v H') → r x y H Q) (ha : RdE X.K ta τ1) (hb : RdE X.K tb τ2) : RdE X.K (tOp r ta tb) (opM g τ1 τ2) := by
  intro B0 B F ρ σ H Q rv ρ' S e q
  obtain ⟨r1, ρ1, r2, d1, d2, e1, e2, e3, e4, e5⟩ := opM_some e
  refine two ha hb S e1 e2 e3 e4 fun x y F' H' x1 S1 k1 k2 => ?_
  exact hr B0 B F' ρ' σ H' x y d1 d2 rv Q S1 k1 k2 e5 fun v F2 H2 x2 S2 k => q v F2 H2 (x1.trans x2) S2 k
theorem dx_op {op : Operator} {g : D → D → Option Rv} (o : OpD X (binaryOp op) g) (ha : DX X a τ1) (hb : DX X b τ2) : DX X (.BinOp a op b pos) (opM g τ1 τ2) := by
  obtain ⟨r, ho, hr⟩ := o.ex
  obtain ⟨ta, pa, ha⟩ := ha.ex
  obtain ⟨tb, pb, hb⟩ := hb.ex
  exact ⟨_, pe_op ho pa pb, op_rd (f := binaryOp op) hr ha hb⟩
theorem dx_cmp {op : CmpOp} {g : D → D → Option Rv} (o : OpD X (compareOp op) g) (ha : DX X a τ1) (hb : DX X b τ2) (hm : behindInMarks op b = false := by first | exact nomark _ | rfl) : DX X (.Compare a [op] [b] pos) (opM g τ1 τ2) := by
  obtain ⟨r, ho, hr⟩ := o.ex
  obtain ⟨ta, pa, ha⟩ := ha.ex
  obtain ⟨tb, pb, hb⟩ := hb.ex
  exact ⟨_, pe_cmpR ho pa pb hm, op_rd (f := compareOp op) hr ha hb⟩
theorem OpD.or {f : Value → Value → Sem Value} {g1 g2 : D → D → Option Rv} (h1 : OpD X f g1) (h2 : OpD X f g2) : OpD X f (fun a b => match g1 a b with
    | some r => some r
    | none => g2 a b) := by
  obtain ⟨r1, o1, q1⟩ := h1.ex
  obtain ⟨r2, o2, q2⟩ := h2.ex
  refine ⟨_, o1.or o2, fun B0 B F ρ σ H x y a b rv Q S k1 k2 e q => ?_⟩
  split at e
  · rename_i r' e'
    cases e
    exact .inl (q1 B0 B F ρ σ H x y a b _ Q S k1 k2 e' q)
  · exact .inr (q2 B0 B F ρ σ H x y a b _ Q S k1 k2 e q)
theorem OpD.imp {f : Value → Value → Sem Value} {g g' : D → D → Option Rv} (h : OpD X f g) (i : ∀ a b r, g' a b = some r → g a b = some r) : OpD X f g' := by
  obtain ⟨r, o, q⟩ := h.ex
  exact ⟨r, o, fun B0 B F ρ σ H x y a b rv Q S k1 k2 e w => q B0 B F ρ σ H x y a b rv Q S k1 k2 (i _ _ _ e) w⟩
/-- ints alone -/
def gI (C : Int → Int → Bool) (g : Int → Int → D) : D → D → Option Rv
  | .int i, .int j => if C i j then some (.rep (g i j)) else none
  | _, _ => none
theorem opdI {f : Value → Value → Sem Value} {C : Int → Int → Prop} {c : Int → Int → Bool} {g : Int → Int → V} {gd : Int → Int → D} (h : OpR X f (rI C g)) (hc : ∀ i j, c i j = true → C i j) (hg : ∀ (F : Hp) i j, Rep F (g i j) (gd i j)) : OpD X f (gI c gd) := by
  refine ⟨_, h, fun B0 B F ρ σ H x y a b rv Q S k1 k2 e q => ?_⟩
  unfold gI at e
  split at e
  · rename_i i j
    split at e
    · rename_i hh
      cases e
      exact ⟨i, j, k1.int, k2.int, hc i j hh, q _ F H (Ext.refl B F) S (hg F i j)⟩
    · cases e
  · cases e
theorem opdI0 {f : Value → Value → Sem Value} {g : Int → Int → V} {gd : Int → Int → D} (h : OpR X f (rI0 g)) (hg : ∀ (F : Hp) i j, Rep F (g i j) (gd i j)) : OpD X f (gI (fun _ _ => true) gd) := by
  refine ⟨_, h, fun B0 B F ρ σ H x y a b rv Q S k1 k2 e q => ?_⟩
  unfold gI at e
  split at e
  · rename_i i j
    rw [if_pos rfl] at e
    cases e
    exact ⟨i, j, k1.int, k2.int, q _ F H (Ext.refl B F) S (hg F i j)⟩
  · cases e
/-- a new list -/
theorem rv_list {K : PySem.W.Frag} {B0 B F : Hp} {ρ : En} {σ : List (Option V)} {H : Hp} {p : Addr} {vs : List V} {l : List D} (S : SOk K B0 B F ρ σ H) (hp : H p = none) (r : Reps F vs l) : RvOk K B0 B F ρ σ (upd H p (.lst vs)) (.ref p) (.new (.list l)) :=
  ⟨p, rfl, S.fh.free hp, S.bh.free hp, ⟨vs, upd_same, r⟩, notOwn_new S hp⟩
/-- a new tuple is data at once -/
theorem rv_tup {K : PySem.W.Frag} {B0 B F : Hp} {ρ : En} {σ : List (Option V)} {H : Hp} {p : Addr} {vs : List V} {l : List D} {Q : VK} (S : SOk K B0 B F ρ σ H) (hp : H p = none) (r : Reps F vs l)
    (q : ∀ v F' H', Ext B F F' → SOk K B0 B F' ρ σ H' → RvOk K B0 B F' ρ σ H' v (.rep (.tuple l)) → Q v H') : Q (.ref p) (upd H p (.tup vs)) := by
  have hF := S.fh.free hp
  refine q _ (upd F p (.tup vs)) _ (ext_freeze hF (S.bh.free hp)) ((S.alloc hp).freeze upd_same hF (notOwn_new S hp)) ?_
  exact Rep.tup upd_same (r.mono (sb_upd hF))
def gCatL : D → D → Option Rv
  | .list a, .list b => if a.length + b.length ≤ 16777216 then some (.new (.list (a ++ b))) else none
  | _, _ => none
theorem opd_catL : OpD X (binaryOp .Add) gCatL := by
  refine ⟨_, op_cat, fun B0 B F ρ σ H x y a b rv Q S k1 k2 e q => ?_⟩
  unfold gCatL at e
  split at e
  · rename_i l m
    split at e
    · rename_i hz
      cases e
      obtain ⟨p1, v1, e1, h1, r1⟩ := k1.lst S.fh
      obtain ⟨p2, v2, e2, h2, r2⟩ := k2.lst S.fh
      refine ⟨p1, p2, v1, v2, e1, e2, h1, h2, by rw [r1.len, r2.len, sizeLine_eq]; exact hz, fun p hp => q _ F _ (Ext.refl B F) (S.alloc hp) (rv_list S hp (r1.app r2))⟩
    · cases e
  · cases e
def gCatT : D → D → Option Rv
  | .tuple a, .tuple b => if a.length + b.length ≤ 16777216 then some (.rep (.tuple (a ++ b))) else none
  | _, _ => none
theorem opd_catT : OpD X (binaryOp .Add) gCatT := by
  refine ⟨_, op_catA, fun B0 B F ρ σ H x y a b rv Q S k1 k2 e q => ?_⟩
  unfold gCatT at e
  split at e
  · rename_i l m
    split at e
    · rename_i hz
      cases e
      obtain ⟨p1, v1, e1, h1, r1⟩ := k1.tup
      obtain ⟨p2, v2, e2, h2, r2⟩ := k2.tup
      refine ⟨p1, p2, v1, v2, e1, e2, SqT.of (S.fh _ _ h1), SqT.of (S.fh _ _ h2), by rw [r1.len, r2.len, sizeLine_eq]; exact hz, fun z => ?_, fun _ z => ?_, fun _ _ p hp => rv_tup S hp (r1.app r2) q⟩
      · subst z
        cases r1
        exact q _ F H (Ext.refl B F) S (Rep.tup h2 r2)
      · subst z
        cases r2
        rw [List.append_nil] at q
        exact q _ F H (Ext.refl B F) S (Rep.tup h1 r1)
    · cases e
  · cases e
def gCatS : D → D → Option Rv
  | .str a, .str b => if a.length + b.length ≤ 16777216 then some (.rep (.str (a ++ b))) else none
  | _, _ => none
theorem opd_catS : OpD X (binaryOp .Add) gCatS := by
  refine ⟨_, op_add_str, fun B0 B F ρ σ H x y a b rv Q S k1 k2 e q => ?_⟩
  unfold gCatS at e
  split at e
  · rename_i l m
    split at e
    · rename_i hz
      cases e
      exact ⟨l, m, k1.str, k2.str, by rw [sizeLine_eq]; exact hz, q _ F H (Ext.refl B F) S (.str _)⟩
    · cases e
  · cases e
def gAdd : D → D → Option Rv
  | .int i, .int j => some (.rep (.int (i + j)))
  | .list a, .list b => if a.length + b.length ≤ 16777216 then some (.new (.list (a ++ b))) else none
  | .tuple a, .tuple b => if a.length + b.length ≤ 16777216 then some (.rep (.tuple (a ++ b))) else none
  | .str a, .str b => if a.length + b.length ≤ 16777216 then some (.rep (.str (a ++ b))) else none
  | _, _ => none
theorem opd_add : OpD X (binaryOp .Add) gAdd := by
  refine (((opdI0 (gd := fun i j => .int (i + j)) op_add fun F i j => .int _).or opd_catL).or (opd_catT.or opd_catS)).imp fun a b r e => ?_
  unfold gAdd at e
  split at e
  · exact e
  · split at e
    · rename_i h
      cases e
      simp only [gI, gCatL, if_pos h]
    · cases e
  · split at e
    · rename_i h
      cases e
      simp only [gI, gCatL, gCatT, if_pos h]
    · cases e
  · split at e
    · rename_i h
      cases e
      simp only [gI, gCatL, gCatT, gCatS, if_pos h]
    · cases e
  · cases e
def gSub : D → D → Option Rv := gI (fun _ _ => true) fun i j => .int (i - j)
theorem opd_sub : OpD X (binaryOp .Sub) gSub := opdI0 op_sub fun F i j => .int _
def gMod : D → D → Option Rv := gI (fun _ j => j != 0) fun i j => .int (i.fmod j)
theorem opd_mod : OpD X (binaryOp .Mod) gMod := opdI op_modN (fun i j h => by simpa using h) fun F i j => .int _
def gDiv : D → D → Option Rv := gI (fun _ j => j != 0 && decide (j.natAbs < 1073741824)) fun i j => .int (i.fdiv j)
theorem opd_div : OpD X (binaryOp .FloorDiv) gDiv := opdI op_fdivN (fun i j h => by simpa [CDivN] using h) fun F i j => .int _
def gPow : D → D → Option Rv := gI (fun i j => decide (0 ≤ j) && decide (j ≤ 1000000) && decide (i.natAbs < 18446744073709551616)) fun i j => .int (i ^ j.toNat)
theorem opd_pow : OpD X (binaryOp .Pow) gPow := opdI op_pow (fun i j h => by simpa [CPow, and_assoc] using h) fun F i j => .int _
def gXor : D → D → Option Rv := gI (fun _ _ => true) fun i j => .int (Builtin.bitXor i j)
theorem opd_xor : OpD X (binaryOp .BitXor) gXor := opdI0 op_xor fun F i j => .int _
def gShl : D → D → Option Rv := gI (fun i j => decide (0 ≤ j) && decide (j ≤ 1000000) && decide (i.natAbs < 18446744073709551616)) fun i j => .int (i * 2 ^ j.toNat)
theorem opd_shl : OpD X (binaryOp .LShift) gShl := opdI op_shl (fun i j h => by simpa [CPow, and_assoc] using h) fun F i j => .int _
/-- xs * n -/
def gRepL : D → D → Option Rv
  | .list a, .int k => if Nat.ble k.natAbs 16777216 && Nat.ble (a.length * k.toNat) 16777216 then some (.new (.list (List.replicate k.toNat a).flatten)) else none
  | _, _ => none
theorem Reps.rep {F : Hp} {vs : List V} {ds : List D} (r : Reps F vs ds) : ∀ n : Nat, Reps F (List.replicate n vs).flatten (List.replicate n ds).flatten
  | 0 => .nil
  | n + 1 => by
    rw [List.replicate_succ, List.replicate_succ, List.flatten_cons, List.flatten_cons]
    exact r.app (Reps.rep r n)
theorem opd_repL : OpD X (binaryOp .Mult) gRepL := by
  refine ⟨_, op_rep, fun B0 B F ρ σ H x y a b rv Q S k1 k2 e q => ?_⟩
  unfold gRepL at e
  split at e
  · rename_i l k
    split at e
    · rename_i hz
      cases e
      simp only [Bool.and_eq_true] at hz
      have hz1 := Nat.le_of_ble_eq_true hz.1
      have hz2 := Nat.le_of_ble_eq_true hz.2
      obtain ⟨p1, v1, e1, h1, r1⟩ := k1.lst S.fh
      refine ⟨p1, k, v1, e1, k2.int, h1, by omega, by omega, by rw [r1.len, sizeLine_eq]; exact hz2, fun p hp => q _ F _ (Ext.refl B F) (S.alloc hp) (rv_list S hp (r1.rep _))⟩
    · cases e
  · cases e
def gMul : D → D → Option Rv
  | .int i, .int j => if (decide (i.natAbs < 18446744073709551616) || decide (j.natAbs < 18446744073709551616) || decide (i.natAbs.log2 + j.natAbs.log2 < 1000000)) = true then some (.rep (.int (i * j))) else none
  | .list a, .int k => if Nat.ble k.natAbs 16777216 && Nat.ble (a.length * k.toNat) 16777216 then some (.new (.list (List.replicate k.toNat a).flatten)) else none
  | _, _ => none
theorem opd_mul : OpD X (binaryOp .Mult) gMul := by
  refine (((opdI (c := fun i j => decide (i.natAbs < 18446744073709551616) || decide (j.natAbs < 18446744073709551616)) (gd := fun i j => .int (i * j)) op_mul (fun i j h => ?_) fun F i j => .int _).or
    (opdI (c := fun i j => decide (i.natAbs.log2 + j.natAbs.log2 < 1000000)) (gd := fun i j => .int (i * j)) op_mulW (fun i j h => by simpa [CMulW] using h) fun F i j => .int _)).or opd_repL).imp fun a b r e => ?_
  · simp only [Bool.or_eq_true, decide_eq_true_eq] at h
    rcases h with h | h
    · exact .inl ⟨by omega, by omega⟩
    · exact .inr ⟨by omega, by omega⟩
  · unfold gMul at e
    split at e
    · rename_i a b
      split at e
      · rename_i h
        cases e
        simp only [gI]
        simp only [Bool.or_eq_true, decide_eq_true_eq] at h
        by_cases h1 : (decide (a.natAbs < 18446744073709551616) || decide (b.natAbs < 18446744073709551616)) = true
        · simp [h1]
        · simp only [h1]
          simp only [Bool.or_eq_true, decide_eq_true_eq] at h1
          have h2 : a.natAbs.log2 + b.natAbs.log2 < 1000000 := by
            rcases h with h | h
            · exact absurd h h1
            · exact h
          simp [h2]
      · cases e
    · exact e
    · cases e
/-! comparisons -/
def gCI (c : Int → Int → Bool) : D → D → Option Rv := gI (fun _ _ => true) fun i j => .bool (c i j)
theorem opd_lt : OpD X (compareOp .Lt) (gCI fun i j => decide (i < j)) := opdI0 op_lt fun F i j => .bl _
theorem opd_le : OpD X (compareOp .LtE) (gCI fun i j => decide (i ≤ j)) := opdI0 op_le fun F i j => .bl _
theorem opd_gt : OpD X (compareOp .Gt) (gCI fun i j => decide (j < i)) := opdI0 op_gt fun F i j => .bl _
theorem opd_ge : OpD X (compareOp .GtE) (gCI fun i j => decide (j ≤ i)) := opdI0 op_ge fun F i j => .bl _
def eqD (a b : D) : Option Bool := match a, b with
  | .int i, .int j => some (decide (i = j))
  | a, b => if a.plain && b.plain && decide (a.depth ≤ 60) then some (PyData.eqv a b) else none
theorem eqD_some {a b : D} {k : Bool} (h : eqD a b = some k) : a.plain = true ∧ b.plain = true ∧ a.depth ≤ 60 ∧ PyData.eqv a b = k := by
  unfold eqD at h
  split at h
  · cases h
    exact ⟨rfl, rfl, Nat.zero_le _, by simp only [PyData.eqv]; exact Bool.beq_eq_decide_eq _ _⟩
  · split at h
    · rename_i hh
      simp only [Bool.and_eq_true, decide_eq_true_eq] at hh
      cases h
      exact ⟨hh.1.1, hh.1.2, hh.2, rfl⟩
    · cases h
def gEq (neg : Bool) : D → D → Option Rv := fun a b => match eqD a b with
  | some k => some (.rep (.bool (if neg then !k else k)))
  | none => none
def rEqP (K : PySem.W.Frag) (neg : Bool) : R2 := fun x y H Q => ∃ d e, Dp K H x d ∧ Dp K H y e ∧ d.plain = true ∧ e.plain = true ∧ d.depth ≤ 60 ∧ Q (.bl (if neg then !PyData.eqv d e else PyData.eqv d e)) H
theorem op_eqP (hu : X.A.units + 64 < cLine) : OpR X (compareOp .Eq) (rEqP X.K false) := by
  intro pins s σ H x y v u Q I rx ry h
  obtain ⟨d, e, h1, h2, p1, p2, hd, q⟩ := h
  obtain ⟨as, r1⟩ := Dp.reads I d x v h1 rx
  obtain ⟨bs, r2⟩ := Dp.reads I e y u h2 ry
  exact SeqAt.eq_plain r1 r2 p1 p2 (by omega) ⟨.bl _, H, I, rfl, q⟩
theorem op_neP (hu : X.A.units + 64 < cLine) : OpR X (compareOp .NotEq) (rEqP X.K true) := by
  intro pins s σ H x y v u Q I rx ry h
  obtain ⟨d, e, h1, h2, p1, p2, hd, q⟩ := h
  obtain ⟨as, r1⟩ := Dp.reads I d x v h1 rx
  obtain ⟨bs, r2⟩ := Dp.reads I e y u h2 ry
  exact SeqAt.ne_plain r1 r2 p1 p2 (by omega) ⟨.bl _, H, I, rfl, q⟩
theorem opd_eqAny {op : CmpOp} {neg : Bool} (h : OpR X (compareOp op) (rEqP X.K neg)) : OpD X (compareOp op) (gEq neg) := by
  refine ⟨_, h, fun B0 B F ρ σ H x y a b rv Q S k1 k2 e q => ?_⟩
  unfold gEq at e
  split at e
  · rename_i k ek
    cases e
    obtain ⟨p1, p2, hd, ev⟩ := eqD_some ek
    subst ev
    exact ⟨a, b, k1.dp S.fh p1, k2.dp S.fh p2, p1, p2, hd, q _ F H (Ext.refl B F) S (.bl _)⟩
  · cases e
theorem opd_eq (C : XOk X) : OpD X (compareOp .Eq) (gEq false) := opd_eqAny (op_eqP C.un)
theorem opd_ne (C : XOk X) : OpD X (compareOp .NotEq) (gEq true) := opd_eqAny (op_neP C.un)
def isNone : D → Bool
  | .none => true
  | _ => false
def gIsN (neg : Bool) : D → D → Option Rv := fun a b => match b with
  | .none => some (.rep (.bool (if neg then !isNone a else isNone a)))
  | .bool k => match a with
    | .bool j => some (.rep (.bool (if neg then !decide (j = k) else decide (j = k))))
    | _ => none
  | _ => none
end
end DL
set_option Elab.async false
set_option linter.all false
set_option maxRecDepth 100000
set_option maxHeartbeats 1000000
namespace DL
open PySem PySem.Spec L2

section
variable {X : Cx} {e e2 : Expr} {pos p q : Pos} {τ τ1 τ2 : M Rv}
/-! ### names, constants -/
def nameM (i : Nat) : M Rv := fun ρ => match ρ[i]? with
  | some (.fr d) => some (.rep d, ρ)
  | some (.own _) => some (.bor i, ρ)
  | some (.rd _) => some (.bor i, ρ)
  | some (.scr _) => some (.bor i, ρ)
  | _ => none
theorem rd_name {K : PySem.W.Frag} {i : Nat} : RdE K (tVar i) (nameM i) := by
  intro B0 B F ρ σ H Q r ρ' S h q
  unfold nameM at h
  split at h <;> cases h
  · rename_i d e
    obtain ⟨v, e1, k⟩ := S.slot i _ e
    exact ⟨v, e1, q v F H (Ext.refl B F) S k⟩
  · rename_i d e
    obtain ⟨p, e1, _⟩ := S.slot i _ e
    exact ⟨_, e1, q _ F H (Ext.refl B F) S e1⟩
  · rename_i d e
    obtain ⟨p, e1, _⟩ := S.slot i _ e
    exact ⟨_, e1, q _ F H (Ext.refl B F) S e1⟩
  · rename_i d e
    obtain ⟨p, e1, _⟩ := S.slot i _ e
    exact ⟨_, e1, q _ F H (Ext.refl B F) S e1⟩
theorem dx_name (i : Nat) {x : Str} (hN : X.N[i]? = some x := by rfl) (hv : Vis X.env.scope x := by first | exact Or.inl rfl | exact Or.inr (Or.inl rfl) | exact Or.inr (Or.inr rfl)) (hd : (x == ("__debug__" : Str)) = false := by decide)
    (hcd : (x == ("__classdict__" : Str)) = false := by decide) : DX X (.Name x pos) (nameM i) := ⟨_, pe_var hN hv hd hcd, rd_name⟩
def cstM (d : D) : M Rv := fun ρ => some (.rep d, ρ)
theorem rd_const {K : PySem.W.Frag} {v : V} {d : D} (h : ∀ F, Rep F v d) : RdE K (tC v) (cstM d) := by
  intro B0 B F ρ σ H Q r ρ' S e q
  cases e
  exact q v F H (Ext.refl B F) S (h F)
theorem dx_int {i : Int} {j} : DX X (.Constant (.int i) j pos) (cstM (.int i)) := ⟨_, pe_int, rd_const fun F => .int i⟩
theorem dx_bool {b : Bool} {j} : DX X (.Constant (.bool b) j pos) (cstM (.bool b)) := ⟨_, pe_bl, rd_const fun F => .bl b⟩
theorem dx_none {j} : DX X (.Constant .none j pos) (cstM .none) := ⟨_, pe_non, rd_const fun F => .non⟩
theorem dx_str {x : Str} {j} : DX X (.Constant (.str x) j pos) (cstM (.str x)) := ⟨_, pe_str, rd_const fun F => .str x⟩
theorem dx_glob {x : Str} {i : Int} {t : Tok} (hg : Gl X x) (hm : X.mg x = some (.int i t)) (hd : (x == ("__debug__" : Str)) = false := by decide) : DX X (.Name x pos) (cstM (.int i)) := ⟨_, pe_glob (v := .int i) hg hm ⟨t, rfl⟩ hd, rd_const fun F => .int i⟩

/-! ### one operand -/
def oneM (g : D → Option Rv) (τ : M Rv) : M Rv := bnd τ fun r => bnd (seeM r) fun a => lft (g a)
theorem oneM_some {g : D → Option Rv} {ρ ρ' : En} {r : Rv} (h : oneM g τ ρ = some (r, ρ')) : ∃ r1 d1, τ ρ = some (r1, ρ') ∧ see ρ' r1 = some d1 ∧ g d1 = some r := by
  obtain ⟨r1, ρ1, e1, h⟩ := bnd_some h
  obtain ⟨d1, ρ3, e3, h⟩ := bnd_some h
  obtain ⟨e5, rfl⟩ := lft_some h
  obtain ⟨e3, rfl⟩ := seeM_some e3
  exact ⟨r1, d1, e1, e3, e5⟩
/-- what a one-place reading asks -/
def OneOk (K : PySem.W.Frag) (r : V → Hp → VK → Prop) (g : D → Option Rv) : Prop := ∀ (B0 B F : Hp) (ρ : En) (σ : List (Option V)) (H : Hp) (x : V) (a : D) (rv : Rv) (Q : VK), SOk K B0 B F ρ σ H → Seen F H x a → g a = some rv →
    (∀ v F' H', Ext B F F' → SOk K B0 B F' ρ σ H' → RvOk K B0 B F' ρ σ H' v rv → Q v H') → r x H Q
theorem one_rd {K : PySem.W.Frag} {r : V → Hp → VK → Prop} {g : D → Option Rv} {ta : TE} (hr : OneOk K r g) (ha : RdE K ta τ) : RdE K (fun σ H Q => ta σ H fun x H1 => r x H1 Q) (oneM g τ) := by
  intro B0 B F ρ σ H Q rv ρ' S e q
  obtain ⟨r1, d1, e1, e3, e5⟩ := oneM_some e
  refine ha B0 B F ρ σ H _ r1 ρ' S e1 fun v1 F1 H1 x1 S1 k1 => ?_
  exact hr B0 B F1 ρ' σ H1 v1 d1 rv Q S1 (S1.seen k1 e3) e5 fun v F2 H2 x2 S2 k => q v F2 H2 (x1.trans x2) S2 k
structure C1D (X : Cx) (f : Value) (g : D → Option Rv) : Prop where
  ex : ∃ r, CallR X f r ∧ OneOk X.K (fun x H Q => r [x] H Q) g
theorem C1D.or {f : Value} {g1 g2 : D → Option Rv} (h1 : C1D X f g1) (h2 : C1D X f g2) : C1D X f (fun a => match g1 a with
    | some r => some r
    | none => g2 a) := by
  obtain ⟨r1, o1, q1⟩ := h1.ex
  obtain ⟨r2, o2, q2⟩ := h2.ex
  refine ⟨_, o1.or o2, fun B0 B F ρ σ H x a rv Q S k1 e q => ?_⟩
  dsimp only at e
  split at e
  · rename_i r' e'
    cases e
    exact .inl (q1 B0 B F ρ σ H x a _ Q S k1 e' q)
  · exact .inr (q2 B0 B F ρ σ H x a _ Q S k1 e q)
theorem C1D.imp {f : Value} {g g' : D → Option Rv} (h : C1D X f g) (i : ∀ a r, g' a = some r → g a = some r) : C1D X f g' := by
  obtain ⟨r, o, q⟩ := h.ex
  exact ⟨r, o, fun B0 B F ρ σ H x a rv Q S k1 e w => q B0 B F ρ σ H x a rv Q S k1 (i _ _ e) w⟩
theorem dx_b1 {id : String} {x : Str} {g : D → Option Rv} (c : C1D X (.builtin id) g) (hm : X.mg x = none) (ha : DX X e τ) (hg : Gl X x := by rfl) (hv : bootBuiltins x = some (.builtin id) := by decide +kernel)
    (hn : x ≠ "__name__" := by decide) (hdb : (x == ("__debug__" : Str)) = false := by decide)
    (he : starEach [e] X.env = (false, eval e X.env) :: starEach [] X.env := by rfl) (hpl : (backTo pos (starEach [] X.env)).any (·.1) = false := by rfl) : DX X (.Call (.Name x p) [e] [] pos) (oneM g τ) := by
  obtain ⟨r, hc, hr⟩ := c.ex
  obtain ⟨t, pe, h⟩ := ha.ex
  exact ⟨_, pe_callB hc hg hm hv (pa_cons pe pa_nil he) hn hdb he hpl, one_rd (r := fun x H Q => r [x] H Q) hr h⟩
theorem dx_t1 {T : String} {x : Str} {g : D → Option Rv} (c : C1D X (.type T) g) (hm : X.mg x = none) (ha : DX X e τ) (hg : Gl X x := by rfl) (hv : bootBuiltins x = some (.type T) := by decide +kernel)
    (hn : x ≠ "__name__" := by decide) (hdb : (x == ("__debug__" : Str)) = false := by decide)
    (he : starEach [e] X.env = (false, eval e X.env) :: starEach [] X.env := by rfl) (hpl : (backTo pos (starEach [] X.env)).any (·.1) = false := by rfl) : DX X (.Call (.Name x p) [e] [] pos) (oneM g τ) := by
  obtain ⟨r, hc, hr⟩ := c.ex
  obtain ⟨t, pe, h⟩ := ha.ex
  exact ⟨_, pe_callTy hc hg hm hv (pa_cons pe pa_nil he) hn hdb he hpl, one_rd (r := fun x H Q => r [x] H Q) hr h⟩
/-! len, abs, int, bool -/
def gLen : D → Option Rv
  | .list l => some (.rep (.int l.length))
  | .tuple l => some (.rep (.int l.length))
  | .str x => if x.length ≤ 16777216 then some (.rep (.int x.length)) else none
  | _ => none
theorem c1_len : C1D X (.builtin "len") gLen := by
  refine ⟨_, call_len, fun B0 B F ρ σ H x a rv Q S k e q => ?_⟩
  unfold gLen at e
  split at e
  · cases e
    obtain ⟨p1, v1, e1, h1, r1⟩ := k.lst S.fh
    subst e1
    exact ⟨_, _, rfl, .inl ⟨v1, SqL.of h1, rfl⟩, by rw [r1.len]; exact q _ F H (Ext.refl B F) S (.int _)⟩
  · cases e
    obtain ⟨p1, v1, e1, h1, r1⟩ := k.tup
    subst e1
    exact ⟨_, _, rfl, .inr ⟨v1, SqT.of (S.fh _ _ h1), rfl⟩, by rw [r1.len]; exact q _ F H (Ext.refl B F) S (.int _)⟩
  · split at e
    · rename_i hz
      cases e
      cases k.str
      exact ⟨_, _, rfl, ⟨by rw [sizeLine_eq]; exact hz, rfl⟩, q _ F H (Ext.refl B F) S (.int _)⟩
    · cases e
  · cases e
def gAbs : D → Option Rv
  | .int i => some (.rep (.int (if i < 0 then -i else i)))
  | _ => none
theorem c1_abs : C1D X (.builtin "abs") gAbs := by
  refine ⟨_, call_abs, fun B0 B F ρ σ H x a rv Q S k e q => ?_⟩
  unfold gAbs at e
  split at e <;> cases e
  cases k.int
  exact ⟨_, rfl, q _ F H (Ext.refl B F) S (.int _)⟩
def gInt : D → Option Rv
  | .int i => some (.rep (.int i))
  | .bool k => some (.rep (.int (if k then 1 else 0)))
  | _ => none
theorem c1_int : C1D X (.type "int") gInt := by
  refine ⟨_, call_int1, fun B0 B F ρ σ H x a rv Q S k e q => ?_⟩
  unfold gInt at e
  split at e <;> cases e
  · cases k.int
    exact .inl ⟨_, rfl, q _ F H (Ext.refl B F) S (.int _)⟩
  · cases k.bl
    exact .inr ⟨_, rfl, q _ F H (Ext.refl B F) S (.int _)⟩
def gListOf : D → Option Rv
  | .list l => some (.new (.list l))
  | .tuple l => some (.new (.list l))
  | _ => none
theorem c1_list : C1D X (.type "list") gListOf := by
  refine ⟨_, call_list_of, fun B0 B F ρ σ H x a rv Q S k e q => ?_⟩
  unfold gListOf at e
  split at e <;> cases e
  · obtain ⟨p1, v1, e1, h1, r1⟩ := k.lst S.fh
    subst e1
    exact ⟨_, _, rfl, .inl (SqL.of h1), fun p hp => q _ F _ (Ext.refl B F) (S.alloc hp) (rv_list S hp r1)⟩
  · obtain ⟨p1, v1, e1, h1, r1⟩ := k.tup
    subst e1
    exact ⟨_, _, rfl, .inr (SqT.of (S.fh _ _ h1)), fun p hp => q _ F _ (Ext.refl B F) (S.alloc hp) (rv_list S hp r1)⟩
def gTupOf : D → Option Rv
  | .list l => some (.rep (.tuple l))
  | .tuple l => some (.rep (.tuple l))
  | _ => none
theorem c1_tuple : C1D X (.type "tuple") gTupOf := by
  refine ⟨_, call_tuple_of, fun B0 B F ρ σ H x a rv Q S k e q => ?_⟩
  unfold gTupOf at e
  split at e <;> cases e
  · obtain ⟨p1, v1, e1, h1, r1⟩ := k.lst S.fh
    subst e1
    exact ⟨_, _, rfl, .inl ⟨SqL.of h1, fun p hp => rv_tup S hp r1 q⟩⟩
  · obtain ⟨p1, v1, e1, h1, r1⟩ := k.tup
    subst e1
    exact ⟨_, _, rfl, .inr ⟨SqT.of (S.fh _ _ h1), q _ F H (Ext.refl B F) S (.tup h1 r1)⟩⟩
def intsD : List D → Option (List Int)
  | [] => some []
  | .int i :: r => match intsD r with
    | some l => some (i :: l)
    | none => none
  | _ => none
theorem ints_some : ∀ {ds : List D} {l : List Int}, intsD ds = some l → ds = l.map PyData.int
  | [], l, h => by cases h; rfl
  | d :: r, l, h => by
    cases d with
    | int i =>
      simp only [intsD] at h
      split at h
      · rename_i m e
        cases h
        rw [ints_some e]; rfl
      · cases h
    | _ => simp [intsD] at h
theorem Reps.of_ints {F : Hp} : ∀ {l : List Int} {vs : List V}, Reps F vs (l.map PyData.int) → vs = l.map V.int
  | [], _, .nil => rfl
  | i :: r, _, .cons a b => by
    cases a
    rw [Reps.of_ints b]; rfl
def gSum : D → Option Rv
  | .list l => match intsD l with
    | some ns => some (.rep (.int ns.sum))
    | none => none
  | _ => none
theorem c1_sum (C : XOk X) : C1D X (.builtin "sum") gSum := by
  refine ⟨_, cr_sum C.calm, fun B0 B F ρ σ H x a rv Q S k e q => ?_⟩
  unfold gSum at e
  split at e
  · split at e <;> cases e
    rename_i ns en
    obtain ⟨p1, v1, e1, h1, r1⟩ := k.lst S.fh
    subst e1
    rw [ints_some en] at r1
    rw [r1.of_ints] at h1
    exact ⟨_, ns, rfl, SqL.of h1, q _ F H (Ext.refl B F) S (.int _)⟩
  · cases e

/-! ### unary minus, not -/
def gNeg : D → Option Rv
  | .int i => some (.rep (.int (-i)))
  | _ => none
theorem dx_neg (ha : DX X e τ) : DX X (.UnaryOp .USub e pos) (oneM gNeg τ) := by
  obtain ⟨t, pe, h⟩ := ha.ex
  refine ⟨_, pe_un un_neg pe, one_rd (r := rU fun i => .int (-i)) (fun B0 B F ρ σ H x a rv Q S k e q => ?_) h⟩
  unfold gNeg at e
  split at e <;> cases e
  exact ⟨_, k.int, q _ F H (Ext.refl B F) S (.int _)⟩

/-! ### displays -/
def RdA (K : PySem.W.Frag) (t : TA) (τ : M (List D)) : Prop := ∀ (B0 B F : Hp) (ρ : En) (σ : List (Option V)) (H : Hp) (Q : List V → Hp → Prop) (ds : List D) (ρ' : En), SOk K B0 B F ρ σ H → τ ρ = some (ds, ρ') →
  (∀ vs F' H', Ext B F F' → SOk K B0 B F' ρ' σ H' → Reps F' vs ds → Q vs H') → t σ H Q
structure DA (X : Cx) (es : List Expr) (τ : M (List D)) : Prop where
  ex : ∃ t, PA X es t ∧ RdA X.K t τ
theorem da_nil : DA X [] (fun ρ => some ([], ρ)) := ⟨_, pa_nil, fun B0 B F ρ σ H Q ds ρ' S e q => by
  cases e
  exact q [] F H (Ext.refl B F) S .nil⟩
/-- an expression whose value is kept -/
theorem rd_keep {K : PySem.W.Frag} {t : TE} {B0 B F : Hp} {ρ ρ' : En} {σ : List (Option V)} {H : Hp} {d : D} {Q : VK} (h : RdE K t τ) (S : SOk K B0 B F ρ σ H) (e : bnd τ keep ρ = some (d, ρ'))
    (q : ∀ v F' H', Ext B F F' → SOk K B0 B F' ρ' σ H' → Rep F' v d → Q v H') : t σ H Q := by
  obtain ⟨r, ρ1, e1, e2⟩ := bnd_some e
  refine h B0 B F ρ σ H _ r ρ1 S e1 fun v F1 H1 x1 S1 k1 => ?_
  obtain ⟨F2, x2, S2, k2⟩ := keep_ok S1 k1 e2
  exact q v F2 H1 (x1.trans x2) S2 k2
theorem da_cons {es : List Expr} {τs : M (List D)} (ha : DX X e τ) (hs : DA X es τs) (hst : starEach (e :: es) X.env = (false, eval e X.env) :: starEach es X.env := by rfl) : DA X (e :: es) (bnd (bnd τ keep) fun d => bnd τs fun ds => pur (d :: ds)) := by
  obtain ⟨t, pe, h⟩ := ha.ex
  obtain ⟨ts, pas, hs⟩ := hs.ex
  refine ⟨_, pa_cons pe pas hst, fun B0 B F ρ σ H Q ds ρ' S e q => ?_⟩
  obtain ⟨d, ρ1, e1, e⟩ := bnd_some e
  obtain ⟨ds', ρ2, e2, e⟩ := bnd_some e
  cases e
  refine rd_keep h S e1 fun v F1 H1 x1 S1 k1 => ?_
  refine hs B0 B F1 ρ1 σ H1 _ ds' ρ' S1 e2 fun vs F2 H2 x2 S2 k2 => ?_
  exact q (v :: vs) F2 H2 (x1.trans x2) S2 (.cons (k1.mono x2.1) k2)
def dispM (f : List D → Rv) (τ : M (List D)) : M Rv := bnd τ fun ds => fun ρ => if ds.length ≤ 16777216 then some (f ds, ρ) else none
theorem dx_list {es : List Expr} {τs : M (List D)} (hs : DA X es τs) : DX X (.List es pos) (dispM (fun ds => .new (.list ds)) τs) := by
  obtain ⟨t, pa, h⟩ := hs.ex
  refine ⟨_, pe_lst pa, fun B0 B F ρ σ H Q r ρ' S e q => ?_⟩
  obtain ⟨ds, ρ1, e1, e⟩ := bnd_some e
  split at e
  · rename_i hz
    cases e
    refine h B0 B F ρ σ H _ ds ρ' S e1 fun vs F1 H1 x1 S1 k1 => ⟨by rw [k1.len, sizeLine_eq]; exact hz, fun p hp => ?_⟩
    exact q _ F1 _ x1 (S1.alloc hp) (rv_list S1 hp k1)
  · cases e
theorem dx_tuple {es : List Expr} {τs : M (List D)} {j} (hs : DA X es τs) : DX X (.Tuple es j pos) (dispM (fun ds => .rep (.tuple ds)) τs) := by
  obtain ⟨t, pa, h⟩ := hs.ex
  refine ⟨_, pe_tup pa, fun B0 B F ρ σ H Q r ρ' S e q => ?_⟩
  obtain ⟨ds, ρ1, e1, e⟩ := bnd_some e
  split at e
  · rename_i hz
    cases e
    refine h B0 B F ρ σ H _ ds ρ' S e1 fun vs F1 H1 x1 S1 k1 => ⟨by rw [k1.len, sizeLine_eq]; exact hz, fun p hp => ?_⟩
    exact rv_tup S1 hp k1 fun v F' H' x2 S2 k2 => q v F' H' (x1.trans x2) S2 k2
  · cases e

/-! ### subscripts -/
def gIx : D → D → Option Rv
  | .list l, .int i => match atI l i with
    | some d => some (.rep d)
    | none => none
  | .tuple l, .int i => match atI l i with
    | some d => some (.rep d)
    | none => none
  | .str x, .int i => if x.length ≤ 16777216 then (match atI x.cps.toList i with
    | some c => some (.rep (.str ⟨#[c]⟩))
    | none => none) else none
  | _, _ => none
theorem Reps.atI {F : Hp} {vs : List V} {ds : List D} {i : Int} {d : D} (r : Reps F vs ds) (h : L2.atI ds i = some d) : ∃ v, L2.atI vs i = some v ∧ Rep F v d := by
  unfold L2.atI at h ⊢
  rw [r.len]
  cases q : ixN ds.length i with
  | none => rw [q] at h; cases h
  | some j =>
    rw [q] at h
    have h : ds[j]? = some d := h
    obtain ⟨v, e, k⟩ := r.get h
    exact ⟨v, e, k⟩
theorem ix_ok (B0 B F : Hp) (ρ : En) (σ : List (Option V)) (H : Hp) (x y : V) (a b : D) (rv : Rv) (Q : VK) (S : SOk X.K B0 B F ρ σ H) (k1 : Seen F H x a) (k2 : Seen F H y b) (e : gIx a b = some rv)
    (q : ∀ v F' H', Ext B F F' → SOk X.K B0 B F' ρ σ H' → RvOk X.K B0 B F' ρ σ H' v rv → Q v H') : rIx X.K x y H Q := by
  unfold gIx at e
  split at e
  · rename_i l i
    split at e <;> cases e
    rename_i d ed
    obtain ⟨p1, v1, e1, h1, r1⟩ := k1.lst S.fh
    obtain ⟨v, ev, kv⟩ := r1.atI ed
    exact .inl ⟨p1, v1, i, v, e1, k2.int, SqL.of h1, ev, q _ F H (Ext.refl B F) S kv⟩
  · rename_i l i
    split at e <;> cases e
    rename_i d ed
    obtain ⟨p1, v1, e1, h1, r1⟩ := k1.tup
    obtain ⟨v, ev, kv⟩ := r1.atI ed
    exact .inr (.inl ⟨p1, v1, i, v, e1, k2.int, SqT.of (S.fh _ _ h1), ev, q _ F H (Ext.refl B F) S kv⟩)
  · rename_i x' i
    split at e
    · rename_i hz
      split at e <;> cases e
      rename_i c ec
      exact .inr (.inr ⟨x', i, c, k1.str, k2.int, by rw [sizeLine_eq]; exact hz, ec, q _ F H (Ext.refl B F) S (.str _)⟩)
    · cases e
  · cases e
theorem dx_ix (ha : DX X e τ1) (hb : DX X e2 τ2) (hs : PlainIx e2 := by exact fun _ _ => rfl) : DX X (.Subscript e e2 pos) (opM gIx τ1 τ2) := by
  obtain ⟨ta, pa, ha⟩ := ha.ex
  obtain ⟨tb, pb, hb⟩ := hb.ex
  exact ⟨_, pe_ix ix_seq pa pb hs, op_rd (f := binaryOp .Add) ix_ok ha hb⟩
end
end DL
set_option Elab.async false
set_option linter.all false
set_option maxRecDepth 100000
set_option maxHeartbeats 1000000
namespace DL
open PySem PySem.Spec L2

section
variable {X : Cx} {e e2 e3 : Expr} {pos p q : Pos} {τ τ1 τ2 τ3 : M Rv} {b1 b2 : M Bool}
/-! ### is -/
def rIsI (neg : Bool) : R2 := fun x y H Q => ∃ d c : Option Bool, x = (match d with | some k => V.bl k | none => V.non) ∧ y = (match c with | some k => V.bl k | none => V.non) ∧ Q (.bl (if neg then !decide (d = c) else decide (d = c))) H
theorem op_isI : OpR X (compareOp .Is) (rIsI false) := by
  intro pins s σ H x y v u Q I rx ry h
  obtain ⟨d, c, rfl, rfl, q⟩ := h
  by_cases ec : d = c
  · subst ec
    have : v = u := by cases d <;> (cases rx; cases ry; rfl)
    subst this
    have hp : plainIs v v = true := by cases d <;> (cases rx; rfl)
    exact wpAny_is_self hp ⟨.bl true, H, I, rfl, by simpa using q⟩
  · have hp : plainIs v u = true := by cases d <;> cases c <;> (cases rx; cases ry; rfl)
    refine wpAny_is_other hp (fun z => ec ?_) ⟨.bl false, H, I, rfl, by simpa [ec] using q⟩
    cases d <;> cases c <;> (cases rx; cases ry) <;> first | rfl | cases z | skip
    rfl
theorem op_notI : OpR X (compareOp .IsNot) (rIsI true) := by
  intro pins s σ H x y v u Q I rx ry h
  obtain ⟨d, c, rfl, rfl, q⟩ := h
  by_cases ec : d = c
  · subst ec
    have : v = u := by cases d <;> (cases rx; cases ry; rfl)
    subst this
    have hp : plainIs v v = true := by cases d <;> (cases rx; rfl)
    exact wpAny_isNot_self hp ⟨.bl false, H, I, rfl, by simpa using q⟩
  · have hp : plainIs v u = true := by cases d <;> cases c <;> (cases rx; cases ry; rfl)
    refine wpAny_isNot_other hp (fun z => ec ?_) ⟨.bl true, H, I, rfl, by simpa [ec] using q⟩
    cases d <;> cases c <;> (cases rx; cases ry) <;> first | rfl | cases z | skip
    rfl
def gIs (neg : Bool) : D → D → Option Rv
  | a, .none => some (.rep (.bool (if neg then !isNone a else isNone a)))
  | .bool k, .bool j => some (.rep (.bool (if neg then !decide (k = j) else decide (k = j))))
  | .none, .bool _ => some (.rep (.bool neg))
  | _, _ => none
theorem Seen.isN {F H : Hp} {v : V} {d : D} (h : Seen F H v d) : decide (v = .non) = isNone d := by
  rcases h with h | ⟨p, rfl, h⟩
  · cases h <;> simp [isNone]
  · cases d <;> first | exact h.elim | simp [isNone]
theorem opd_isAny {op : CmpOp} {neg : Bool} (h1 : OpR X (compareOp op) (fun x y H Q => y = .non ∧ Q (.bl (if neg then !decide (x = .non) else decide (x = .non))) H)) (h2 : OpR X (compareOp op) (rIsI neg)) : OpD X (compareOp op) (gIs neg) := by
  refine ⟨_, h1.or h2, fun B0 B F ρ σ H x y a b rv Q S k1 k2 e q => ?_⟩
  unfold gIs at e
  split at e <;> cases e
  · refine .inl ⟨k2.non, ?_⟩
    rw [k1.isN]
    exact q _ F H (Ext.refl B F) S (.bl _)
  · rename_i k j
    refine .inr ⟨some k, some j, k1.bl, k2.bl, ?_⟩
    have : decide ((some k : Option Bool) = some j) = decide (k = j) := by simp
    rw [this]
    exact q _ F H (Ext.refl B F) S (.bl _)
  · rename_i k
    refine .inr ⟨none, some k, k1.non, k2.bl, ?_⟩
    have : (if neg = true then !decide ((none : Option Bool) = some k) else decide ((none : Option Bool) = some k)) = neg := by cases neg <;> rfl
    rw [this]
    exact q _ F H (Ext.refl B F) S (.bl _)
theorem opd_is : OpD X (compareOp .Is) (gIs false) := opd_isAny (neg := false) op_isN op_isI
theorem opd_isnot : OpD X (compareOp .IsNot) (gIs true) := opd_isAny (neg := true) op_notN op_notI

/-! ### tests -/
def gTruth : D → Option Bool
  | .none => some false
  | .bool k => some k
  | .int i => some (i != 0)
  | .str x => if x.length ≤ 16777216 then some ((x.length : Int) != 0) else none
  | .list l => some (!l.isEmpty)
  | .tuple l => some (!l.isEmpty)
  | .dict _ => none
def truM (τ : M Rv) : M Bool := bnd τ fun r => bnd (seeM r) fun a => lft (gTruth a)
theorem Reps.emp {F : Hp} {vs : List V} {ds : List D} (r : Reps F vs ds) : (!vs.isEmpty) = !ds.isEmpty := by
  cases r <;> rfl
theorem truV_of {K : PySem.W.Frag} {B0 B F : Hp} {ρ : En} {σ : List (Option V)} {H : Hp} {v : V} {d : D} {k : Bool} (S : SOk K B0 B F ρ σ H) (h : Seen F H v d) (e : gTruth d = some k) : TruV K v H k := by
  unfold gTruth at e
  split at e
  · cases e; cases h.non; rfl
  · cases e; cases h.bl; rfl
  · cases e; cases h.int; rfl
  · split at e
    · rename_i hz
      cases e; cases h.str; exact ⟨by rw [sizeLine_eq]; exact hz, rfl⟩
    · cases e
  · cases e
    obtain ⟨p1, v1, e1, h1, r1⟩ := h.lst S.fh
    subst e1
    exact .inl ⟨v1, SqL.of h1, r1.emp.symm⟩
  · cases e
    obtain ⟨p1, v1, e1, h1, r1⟩ := h.tup
    subst e1
    exact .inr (.inl ⟨v1, SqT.of (S.fh _ _ h1), r1.emp.symm⟩)
  · cases e
theorem dt_val (h : DX X e τ) (he : ∀ whole, isTrue e X.env whole = (do let v ← whole; standAt e.pos; holding [v] (truthy v)) := by intro _; rfl) : DT X e (truM τ) := by
  obtain ⟨t, pe, h⟩ := h.ex
  refine ⟨_, pt_truth pe he, fun B0 B F ρ σ H Q b ρ' S e q => ?_⟩
  obtain ⟨r, ρ1, e1, e⟩ := bnd_some e
  obtain ⟨d, ρ2, e2, e⟩ := bnd_some e
  obtain ⟨e3, rfl⟩ := lft_some e
  obtain ⟨e2, rfl⟩ := seeM_some e2
  refine h B0 B F ρ σ H _ r ρ' S e1 fun v F1 H1 x1 S1 k1 => ⟨b, truV_of S1 (S1.seen k1 e2) e3, q F1 H1 x1 S1⟩
theorem dt_not (h : DT X e b1) : DT X (.UnaryOp .Not e pos) (bnd b1 fun b => pur (!b)) := by
  obtain ⟨t, pt, h⟩ := h.ex
  refine ⟨_, pt_not pt, fun B0 B F ρ σ H Q b ρ' S e q => ?_⟩
  obtain ⟨r, ρ1, e1, e⟩ := bnd_some e
  cases e
  exact h B0 B F ρ σ H _ r ρ' S e1 fun F1 H1 x1 S1 => q F1 H1 x1 S1
structure DW (X : Cx) (e : Expr) (τ : M Bool) : Prop where
  ex : ∃ t, PW X e t ∧ RdT X.K t τ
theorem DW.dt (h : DW X e b1) : DT X e b1 := let ⟨t, a, b⟩ := h.ex; ⟨t, a.pt, b⟩
theorem dw_and1 (h : DT X e b1) : DW X (.BoolOp .And [e] pos) b1 := let ⟨t, a, b⟩ := h.ex; ⟨t, pw_and1 a, b⟩
theorem dw_or1 (h : DT X e b1) : DW X (.BoolOp .Or [e] pos) b1 := let ⟨t, a, b⟩ := h.ex; ⟨t, pw_or1 a, b⟩
theorem dw_and {rest : List Expr} (h : DT X e b1) (h2 : DW X (.BoolOp .And (e2 :: rest) pos) b2) : DW X (.BoolOp .And (e :: e2 :: rest) pos) (bnd b1 fun b => if b = true then b2 else pur false) := by
  obtain ⟨t, pt, h⟩ := h.ex
  obtain ⟨u, pu, h2⟩ := h2.ex
  refine ⟨_, pw_and pt pu, fun B0 B F ρ σ H Q b ρ' S e q => ?_⟩
  obtain ⟨r, ρ1, e1, e⟩ := bnd_some e
  refine h B0 B F ρ σ H _ r ρ1 S e1 fun F1 H1 x1 S1 => ?_
  cases r with
  | true => rw [if_pos rfl] at e ⊢; exact h2 B0 B F1 ρ1 σ H1 Q b ρ' S1 e fun F2 H2 x2 S2 => q F2 H2 (x1.trans x2) S2
  | false => rw [if_neg Bool.false_ne_true] at e ⊢; cases e; exact q F1 H1 x1 S1
theorem dw_or {rest : List Expr} (h : DT X e b1) (h2 : DW X (.BoolOp .Or (e2 :: rest) pos) b2) : DW X (.BoolOp .Or (e :: e2 :: rest) pos) (bnd b1 fun b => if b = true then pur true else b2) := by
  obtain ⟨t, pt, h⟩ := h.ex
  obtain ⟨u, pu, h2⟩ := h2.ex
  refine ⟨_, pw_or pt pu, fun B0 B F ρ σ H Q b ρ' S e q => ?_⟩
  obtain ⟨r, ρ1, e1, e⟩ := bnd_some e
  refine h B0 B F ρ σ H _ r ρ1 S e1 fun F1 H1 x1 S1 => ?_
  cases r with
  | false => rw [if_neg Bool.false_ne_true] at e ⊢; exact h2 B0 B F1 ρ1 σ H1 Q b ρ' S1 e fun F2 H2 x2 S2 => q F2 H2 (x1.trans x2) S2
  | true => rw [if_pos rfl] at e ⊢; cases e; exact q F1 H1 x1 S1
/-! and, or, not as values, the left ones truth values -/
def boolM (τ : M Rv) : M Bool := bnd τ fun r => match r with
  | .rep (.bool k) => pur k
  | _ => fun _ => none
theorem boolM_some {ρ ρ' : En} {k : Bool} (h : boolM τ ρ = some (k, ρ')) : τ ρ = some (.rep (.bool k), ρ') := by
  obtain ⟨r, ρ1, e1, e⟩ := bnd_some h
  split at e <;> cases e
  exact e1
theorem dx_not (h : DX X e τ) : DX X (.UnaryOp .Not e pos) (bnd (boolM τ) fun b => pur (.rep (.bool (!b)))) := by
  obtain ⟨t, pt, h⟩ := h.ex
  refine ⟨_, pe_not pt, fun B0 B F ρ σ H Q b ρ' S e q => ?_⟩
  obtain ⟨r, ρ1, e1, e⟩ := bnd_some e
  cases e
  exact h B0 B F ρ σ H _ _ ρ' S (boolM_some e1) fun v F1 H1 x1 S1 k1 => ⟨r, (show Seen F1 H1 v (.bool r) from .inl k1).bl, q _ F1 H1 x1 S1 (.bl _)⟩
theorem dx_one {op} (h : DX X e τ) : DX X (.BoolOp op [e] pos) τ := let ⟨t, a, b⟩ := h.ex; ⟨t, pe_one a, b⟩
theorem dx_and {rest : List Expr} (h : DX X e τ1) (h2 : DX X (.BoolOp .And (e2 :: rest) pos) τ2) : DX X (.BoolOp .And (e :: e2 :: rest) pos) (bnd (boolM τ1) fun b => if b = true then τ2 else pur (.rep (.bool false))) := by
  obtain ⟨t, pt, h⟩ := h.ex
  obtain ⟨u, pu, h2⟩ := h2.ex
  refine ⟨_, pe_and pt pu, fun B0 B F ρ σ H Q b ρ' S e q => ?_⟩
  obtain ⟨r, ρ1, e1, e⟩ := bnd_some e
  refine h B0 B F ρ σ H _ _ ρ1 S (boolM_some e1) fun v F1 H1 x1 S1 k1 => ⟨r, (show Seen F1 H1 v (.bool r) from .inl k1).bl, ?_⟩
  cases r with
  | true => rw [if_pos rfl] at e ⊢; exact h2 B0 B F1 ρ1 σ H1 Q b ρ' S1 e fun v F2 H2 x2 S2 => q v F2 H2 (x1.trans x2) S2
  | false => rw [if_neg Bool.false_ne_true] at e ⊢; cases e; exact q _ F1 H1 x1 S1 (.bl _)
theorem dx_or {rest : List Expr} (h : DX X e τ1) (h2 : DX X (.BoolOp .Or (e2 :: rest) pos) τ2) : DX X (.BoolOp .Or (e :: e2 :: rest) pos) (bnd (boolM τ1) fun b => if b = true then pur (.rep (.bool true)) else τ2) := by
  obtain ⟨t, pt, h⟩ := h.ex
  obtain ⟨u, pu, h2⟩ := h2.ex
  refine ⟨_, pe_or pt pu, fun B0 B F ρ σ H Q b ρ' S e q => ?_⟩
  obtain ⟨r, ρ1, e1, e⟩ := bnd_some e
  refine h B0 B F ρ σ H _ _ ρ1 S (boolM_some e1) fun v F1 H1 x1 S1 k1 => ⟨r, (show Seen F1 H1 v (.bool r) from .inl k1).bl, ?_⟩
  cases r with
  | false => rw [if_neg Bool.false_ne_true] at e ⊢; exact h2 B0 B F1 ρ1 σ H1 Q b ρ' S1 e fun v F2 H2 x2 S2 => q v F2 H2 (x1.trans x2) S2
  | true => rw [if_pos rfl] at e ⊢; cases e; exact q _ F1 H1 x1 S1 (.bl _)
theorem dx_if (hc : DT X e3 b1) (h1 : DX X e τ1) (h2 : DX X e2 τ2) : DX X (.IfExp e3 e e2 pos) (bnd b1 fun b => if b = true then τ1 else τ2) := by
  obtain ⟨tc, pc, hc⟩ := hc.ex
  obtain ⟨t, pt, h1⟩ := h1.ex
  obtain ⟨u, pu, h2⟩ := h2.ex
  refine ⟨_, pe_ifExp pc pt pu, fun B0 B F ρ σ H Q b ρ' S e q => ?_⟩
  obtain ⟨r, ρ1, e1, e⟩ := bnd_some e
  refine hc B0 B F ρ σ H _ r ρ1 S e1 fun F1 H1 x1 S1 => ?_
  cases r with
  | true => rw [if_pos rfl] at e ⊢; exact h1 B0 B F1 ρ1 σ H1 Q b ρ' S1 e fun v F2 H2 x2 S2 => q v F2 H2 (x1.trans x2) S2
  | false => rw [if_neg Bool.false_ne_true] at e ⊢; exact h2 B0 B F1 ρ1 σ H1 Q b ρ' S1 e fun v F2 H2 x2 S2 => q v F2 H2 (x1.trans x2) S2
/-! a < b < c: the left and the middle one data or slots -/
def repM (τ : M Rv) : M D := bnd τ fun r => match r with
  | .rep d => pur d
  | _ => fun _ => none
theorem repM_some {ρ ρ' : En} {d : D} (h : repM τ ρ = some (d, ρ')) : τ ρ = some (.rep d, ρ') := by
  obtain ⟨r, ρ1, e1, e⟩ := bnd_some h
  split at e <;> cases e
  exact e1
def boolOf : Option Rv → Option Bool
  | some (.rep (.bool k)) => some k
  | _ => none
theorem boolOf_some {r : Option Rv} {k : Bool} (h : boolOf r = some k) : r = some (.rep (.bool k)) := by
  unfold boolOf at h
  split at h <;> cases h
  rfl
def chainM (g g' : D → D → Option Rv) (τ1 τ2 τ3 : M Rv) : M Bool := bnd (repM τ1) fun a => bnd (repM τ2) fun b => bnd (lft (boolOf (g a b))) fun k => if k = true then bnd τ3 fun r => bnd (seeM r) fun c => lft (boolOf (g' b c)) else pur false
theorem chain_rd {op op' : CmpOp} {g g' : D → D → Option Rv} {ta tb tc : TE} {r r' : R2}
    (hr : ∀ (B0 B F : Hp) (ρ : En) (σ : List (Option V)) (H : Hp) (x y : V) (a b : D) (rv : Rv) (Q : VK), SOk X.K B0 B F ρ σ H → Seen F H x a → Seen F H y b → g a b = some rv → (∀ v F' H', Ext B F F' → SOk X.K B0 B F' ρ σ H' → RvOk X.K B0 B F' ρ σ H' v rv → Q v H') → r x y H Q)
    (hr' : ∀ (B0 B F : Hp) (ρ : En) (σ : List (Option V)) (H : Hp) (x y : V) (a b : D) (rv : Rv) (Q : VK), SOk X.K B0 B F ρ σ H → Seen F H x a → Seen F H y b → g' a b = some rv → (∀ v F' H', Ext B F F' → SOk X.K B0 B F' ρ σ H' → RvOk X.K B0 B F' ρ σ H' v rv → Q v H') → r' x y H Q)
    (ha : RdE X.K ta τ1) (hb : RdE X.K tb τ2) (hc : RdE X.K tc τ3) {B0 B F : Hp} {ρ : En} {σ : List (Option V)} {H : Hp} {Q : VK} {k : Bool} {ρ' : En} (S : SOk X.K B0 B F ρ σ H) (e : chainM g g' τ1 τ2 τ3 ρ = some (k, ρ'))
    (q : ∀ F' H', Ext B F F' → SOk X.K B0 B F' ρ' σ H' → Q (.bl k) H') : tChain r r' ta tb tc σ H Q := by
  obtain ⟨a, ρ1, e1, e⟩ := bnd_some e
  obtain ⟨b, ρ2, e2, e⟩ := bnd_some e
  obtain ⟨k1, ρ3, u3, e⟩ := bnd_some e
  obtain ⟨w3, rfl⟩ := lft_some u3
  refine ha B0 B F ρ σ H _ _ ρ1 S (repM_some e1) fun v1 F1 H1 x1 S1 q1 => ?_
  refine hb B0 B F1 ρ1 σ H1 _ _ ρ3 S1 (repM_some e2) fun v2 F2 H2 x2 S2 q2 => ?_
  refine hr B0 B F2 ρ3 σ H2 v1 v2 a b _ _ S2 (.inl (Rep.mono x2.1 q1)) (.inl q2) (boolOf_some w3) fun v3 F3 H3 x3 S3 q3 => ⟨k1, (show Seen F3 H3 v3 (.bool k1) from .inl q3).bl, ?_⟩
  cases k1 with
  | true =>
    rw [if_pos rfl] at e ⊢
    obtain ⟨r3, ρ4, e4, e⟩ := bnd_some e
    obtain ⟨c, ρ5, e5, e⟩ := bnd_some e
    obtain ⟨e6, rfl⟩ := lft_some e
    obtain ⟨e5, rfl⟩ := seeM_some e5
    refine hc B0 B F3 ρ3 σ H3 _ r3 ρ' S3 e4 fun v4 F4 H4 x4 S4 q4 => ?_
    refine hr' B0 B F4 ρ' σ H4 v2 v4 b c _ _ S4 (.inl (Rep.mono (x3.trans x4).1 q2)) (S4.seen q4 e5) (boolOf_some e6) fun v5 F5 H5 x5 S5 q5 => ?_
    rw [(show Seen F5 H5 v5 (.bool k) from .inl q5).bl]
    exact q F5 H5 (x1.trans (x2.trans (x3.trans (x4.trans x5)))) S5
  | false =>
    rw [if_neg Bool.false_ne_true] at e ⊢
    cases e
    exact q F3 H3 (x1.trans (x2.trans x3)) S3
theorem dx_chain {op op' : CmpOp} {g g' : D → D → Option Rv} (o : OpD X (compareOp op) g) (o' : OpD X (compareOp op') g') (ha : DX X e τ1) (hb : DX X e2 τ2) (hc : DX X e3 τ3)
    (hm : lastMarks [op, op'] [e2, e3] = false := by with_unfolding_all rfl) : DX X (.Compare e [op, op'] [e2, e3] pos) (bnd (chainM g g' τ1 τ2 τ3) fun k => pur (.rep (.bool k))) := by
  obtain ⟨r, ho, hr⟩ := o.ex
  obtain ⟨r', ho', hr'⟩ := o'.ex
  obtain ⟨ta, pa, ha⟩ := ha.ex
  obtain ⟨tb, pb, hb⟩ := hb.ex
  obtain ⟨tc, pc, hc⟩ := hc.ex
  refine ⟨_, pe_chain ho ho' pa pb pc hm, fun B0 B F ρ σ H Q rv ρ' S e q => ?_⟩
  obtain ⟨k, ρ1, e1, e⟩ := bnd_some e
  cases e
  exact chain_rd (op := op) (op' := op') hr hr' ha hb hc S e1 fun F' H' x' S' => q _ F' H' x' S' (.bl _)
theorem dt_chain {op op' : CmpOp} {g g' : D → D → Option Rv} (o : OpD X (compareOp op) g) (o' : OpD X (compareOp op') g') (ha : DX X e τ1) (hb : DX X e2 τ2) (hc : DX X e3 τ3)
    (hm : lastMarks [op, op'] [e2, e3] = false := by with_unfolding_all rfl) : DT X (.Compare e [op, op'] [e2, e3] pos) (chainM g g' τ1 τ2 τ3) := by
  obtain ⟨r, ho, hr⟩ := o.ex
  obtain ⟨r', ho', hr'⟩ := o'.ex
  obtain ⟨ta, pa, ha⟩ := ha.ex
  obtain ⟨tb, pb, hb⟩ := hb.ex
  obtain ⟨tc, pc, hc⟩ := hc.ex
  refine ⟨_, pt_chain ho ho' pa pb pc hm, fun B0 B F ρ σ H Q k ρ' S e q => ?_⟩
  exact chain_rd (op := op) (op' := op') hr hr' ha hb hc S e fun F' H' x' S' => ⟨k, rfl, q F' H' x' S'⟩
theorem dt_cmp {op : CmpOp} {g : D → D → Option Rv} (o : OpD X (compareOp op) g) (ha : DX X e τ1) (hb : DX X e2 τ2) (hm : behindInMarks op e2 = false := by first | exact nomark _ | rfl) : DT X (.Compare e [op] [e2] pos) (boolM (opM g τ1 τ2)) := by
  obtain ⟨r, ho, hr⟩ := o.ex
  obtain ⟨ta, pa, ha⟩ := ha.ex
  obtain ⟨tb, pb, hb⟩ := hb.ex
  refine ⟨_, pt_cmpR ho pa pb hm, fun B0 B F ρ σ H Q k ρ' S e q => ?_⟩
  exact op_rd (f := compareOp op) hr ha hb B0 B F ρ σ H _ _ ρ' S (boolM_some e) fun v F' H' x' S' k' => ⟨k, (show Seen F' H' v (.bool k) from .inl k').bl, q F' H' x' S'⟩
end

/-! ### statements -/
inductive Ct where
  | nx | bk | ct | rt (r : Rv)
def EndOk (K : PySem.W.Frag) (B0 B F : Hp) (ρ : En) (σ : List (Option V)) (H : Hp) (E : Ends) : Ct → Prop
  | .nx => E.nx σ H
  | .bk => E.bk σ H
  | .ct => E.ct σ H
  | .rt r => ∀ v, RvOk K B0 B F ρ σ H v r → E.rt v H
def RdS (K : PySem.W.Frag) (t : TS) (A : List Nat) (τ : M Ct) : Prop := ∀ (B0 B F : Hp) (ρ : En) (σ : List (Option V)) (H : Hp) (E : Ends) (c : Ct) (ρ' : En), SOk K B0 B F ρ σ H → τ ρ = some (c, ρ') →
  (∀ F' σ' H', Ext B F F' → SOk K B0 B F' ρ' σ' H' → (∀ i : Nat, i ∉ A → σ'[i]? = σ[i]?) → (match c with
    | .nx => E.nx σ' H'
    | .bk => E.bk σ' H'
    | .ct => E.ct σ' H'
    | .rt r => ∀ v, RvOk K B0 B F' ρ' σ' H' v r → E.rt v H')) → t E σ H
structure DS (X : Cx) (st : Stmt) (A : List Nat) (τ : M Ct) : Prop where
  ex : ∃ t, PS X st t ∧ RdS X.K t A τ
structure DSs (X : Cx) (st : List Stmt) (A : List Nat) (τ : M Ct) : Prop where
  ex : ∃ t, PSs X st t ∧ RdS X.K t A τ

section
variable {X : Cx} {e e2 e3 : Expr} {pos p q : Pos} {τ τ1 τ2 τ3 : M Rv} {b1 b2 : M Bool} {st : Stmt} {sts : List Stmt} {A A1 A2 : List Nat} {c1 c2 : M Ct}
theorem dss_nil : DSs X [] [] (pur .nx) := ⟨_, pss_nil, fun B0 B F ρ σ H E c ρ' S e q => by
  cases e
  exact q F σ H (Ext.refl B F) S fun _ _ => rfl⟩
theorem dss_one (h : DS X st A c1) : DSs X [st] A c1 := let ⟨t, a, b⟩ := h.ex; ⟨t, pss_one a, b⟩
def seqM (c1 c2 : M Ct) : M Ct := bnd c1 fun c => match c with
  | .nx => c2
  | c => pur c
theorem dss_cons (h : DS X st A1 c1) (h2 : DSs X sts A2 c2) : DSs X (st :: sts) (A1 ++ A2) (seqM c1 c2) := by
  obtain ⟨t, pt, h⟩ := h.ex
  obtain ⟨u, pu, h2⟩ := h2.ex
  refine ⟨_, pss_cons pt pu, fun B0 B F ρ σ H E c ρ' S e q => ?_⟩
  obtain ⟨c0, ρ1, e1, e⟩ := bnd_some e
  refine h B0 B F ρ σ H _ c0 ρ1 S e1 fun F1 σ1 H1 x1 S1 k1 => ?_
  have out : ∀ {c'}, c' = c → ρ1 = ρ' → (match c' with
    | .nx => E.nx σ1 H1
    | .bk => E.bk σ1 H1
    | .ct => E.ct σ1 H1
    | .rt r => ∀ v, RvOk X.K B0 B F1 ρ1 σ1 H1 v r → E.rt v H1) := fun {c'} ec er => by
    subst ec er
    exact q F1 σ1 H1 x1 S1 fun i hi => k1 i fun z => hi (List.mem_append_left _ z)
  cases c0 with
  | nx =>
    refine h2 B0 B F1 ρ1 σ1 H1 E c ρ' S1 e fun F2 σ2 H2 x2 S2 k2 => ?_
    exact q F2 σ2 H2 (x1.trans x2) S2 fun i hi => (k2 i fun z => hi (List.mem_append_right _ z)).trans (k1 i fun z => hi (List.mem_append_left _ z))
  | bk => cases e; exact out rfl rfl
  | ct => cases e; exact out rfl rfl
  | rt r => cases e; exact out rfl rfl
theorem ds_pass : DS X (.Pass pos) [] (pur .nx) := ⟨_, ps_pass, fun B0 B F ρ σ H E c ρ' S e q => by
  cases e
  exact q F σ H (Ext.refl B F) S fun _ _ => rfl⟩
theorem ds_break : DS X (.Break pos) [] (pur .bk) := ⟨_, ps_break, fun B0 B F ρ σ H E c ρ' S e q => by
  cases e
  exact q F σ H (Ext.refl B F) S fun _ _ => rfl⟩
theorem ds_cont : DS X (.Continue pos) [] (pur .ct) := ⟨_, ps_continue, fun B0 B F ρ σ H E c ρ' S e q => by
  cases e
  exact q F σ H (Ext.refl B F) S fun _ _ => rfl⟩
/-- what is returned: an owned slot is moved -/
def retM (r : Rv) : M Ct := fun ρ => match r with
  | .rep d => some (.rt (.rep d), ρ)
  | .new d => some (.rt (.new d), ρ)
  | .bor i => match ρ[i]? with
    | some (.fr d) => some (.rt (.rep d), ρ)
    | some (.own d) => some (.rt (.new d), ρ.set i .un)
    | _ => none
theorem ds_ret (h : DX X e τ) : DS X (.Return (some e) pos) [] (bnd τ retM) := by
  obtain ⟨t, pt, h⟩ := h.ex
  refine ⟨_, ps_ret pt, fun B0 B F ρ σ H E c ρ' S e q => ?_⟩
  obtain ⟨r, ρ1, e1, e⟩ := bnd_some e
  refine h B0 B F ρ σ H _ r ρ1 S e1 fun v F1 H1 x1 S1 k1 => ?_
  cases r with
  | rep d => cases e; exact q F1 σ H1 x1 S1 (fun _ _ => rfl) v k1
  | new d => cases e; exact q F1 σ H1 x1 S1 (fun _ _ => rfl) v k1
  | bor i =>
    simp only [retM] at e
    have k1 : σ[i]? = some (some v) := k1
    split at e <;> cases e
    · rename_i d qd
      obtain ⟨w, e2, k⟩ := S1.slot i _ qd
      rw [k1] at e2; cases e2
      exact q F1 σ H1 x1 S1 (fun _ _ => rfl) v k
    · rename_i d qd
      obtain ⟨p', e2, hF, hB, t⟩ := S1.slot i _ qd
      rw [k1] at e2; cases e2
      refine q F1 σ H1 x1 (S1.mark rfl trivial) (fun _ _ => rfl) _ ⟨p', rfl, hF, hB, t, fun j hj ej => ?_⟩
      rcases ownS_set hj with ⟨_, z⟩ | ⟨z, y⟩
      · cases z
      · exact S1.sep j i p' z y (by rw [qd]; rfl) ej k1
theorem ds_retN : DS X (.Return none pos) [] (pur (.rt (.rep .none))) := ⟨_, ps_retN, fun B0 B F ρ σ H E c ρ' S e q => by
  cases e
  exact q F σ H (Ext.refl B F) S (fun _ _ => rfl) .non .non⟩
theorem ds_expr (h : DX X e τ) (hs : swapsWith e none pos.line X.env = pure false := by rfl) : DS X (.Expr e pos) [] (bnd τ fun _ => pur .nx) := by
  obtain ⟨t, pt, h⟩ := h.ex
  refine ⟨_, ps_expr pt hs, fun B0 B F ρ σ H E c ρ' S e q => ?_⟩
  obtain ⟨r, ρ1, e1, e⟩ := bnd_some e
  cases e
  exact h B0 B F ρ σ H _ r ρ' S e1 fun v F1 H1 x1 S1 k1 => q F1 σ H1 x1 S1 fun _ _ => rfl
/-- a value goes to slot i -/
def asgM (i : Nat) (r : Rv) : M Ct := fun ρ => match ρ[i]? with
  | none => none
  | some _ => match r with
    | .rep d => some (.nx, ρ.set i (.fr d))
    | .new d => some (.nx, ρ.set i (.own d))
    | .bor j => match keep (.bor j) ρ with
      | none => none
      | some (d, ρ1) => some (.nx, ρ1.set i (.fr d))
theorem asg_ok {K : PySem.W.Frag} {B0 B F : Hp} {ρ ρ' : En} {σ : List (Option V)} {H : Hp} {i : Nat} {r : Rv} {v : V} {c : Ct} (S : SOk K B0 B F ρ σ H) (k : RvOk K B0 B F ρ σ H v r) (e : asgM i r ρ = some (c, ρ')) :
    c = .nx ∧ ∃ F', Ext B F F' ∧ SOk K B0 B F' ρ' (σ.set i (some v)) H := by
  unfold asgM at e
  split at e
  · cases e
  · rename_i sl es
    have hi : i < σ.length := by rw [← S.len]; exact (List.getElem?_eq_some_iff.mp es).1
    split at e
    · cases e
      exact ⟨rfl, F, Ext.refl B F, S.store hi ⟨v, rfl, k⟩ fun z => by cases z⟩
    · cases e
      obtain ⟨p, rfl, hF, hB, t, hn⟩ := k
      refine ⟨rfl, F, Ext.refl B F, S.store hi ⟨p, rfl, hF, hB, t⟩ fun _ p' e' => ?_⟩
      cases e'; exact hn
    · split at e
      · cases e
      · rename_i d ρ1 ek
        cases e
        obtain ⟨F', x, S', kr⟩ := keep_ok S k ek
        exact ⟨rfl, F', x, S'.store hi ⟨v, rfl, kr⟩ fun z => by cases z⟩
theorem ds_set (i : Nat) {x : Str} {pos' : Pos} (C : XOk X) (h : DX X e τ) (hi : X.N[i]? = some x := by rfl) (hx : Loc X.env.scope x := by first | exact Or.inl rfl | exact Or.inr rfl)
    (hs : swapsWith e (some (.Name x pos')) pos.line X.env = pure false := by rfl) (hf : X.fn x = true ∨ X.env.scope.names.lookup x = some .local := by first | exact .inl rfl | exact .inr rfl) : DS X (.Assign [.Name x pos'] e pos) [i] (bnd τ (asgM i)) := by
  obtain ⟨t, pt, h⟩ := h.ex
  refine ⟨_, ps_set C.nd hi hx pt hs hf, fun B0 B F ρ σ H E c ρ' S e q => ?_⟩
  obtain ⟨r, ρ1, e1, e⟩ := bnd_some e
  refine h B0 B F ρ σ H _ r ρ1 S e1 fun v F1 H1 x1 S1 k1 => ?_
  obtain ⟨rfl, F2, x2, S2⟩ := asg_ok S1 k1 e
  exact q F2 _ H1 (x1.trans x2) S2 fun j hj => List.getElem?_set_ne fun z => hj (by simp [z])
theorem ds_if (hc : DT X e b1) (h1 : DSs X sts A1 c1) {sts2 : List Stmt} (h2 : DSs X sts2 A2 c2) : DS X (.If e sts sts2 pos) (A1 ++ A2) (bnd b1 fun b => if b = true then c1 else c2) := by
  obtain ⟨tc, pc, hc⟩ := hc.ex
  obtain ⟨t, pt, h1⟩ := h1.ex
  obtain ⟨u, pu, h2⟩ := h2.ex
  refine ⟨_, ps_if pc pt pu, fun B0 B F ρ σ H E c ρ' S e q => ?_⟩
  obtain ⟨r, ρ1, e1, e⟩ := bnd_some e
  refine hc B0 B F ρ σ H _ r ρ1 S e1 fun F1 H1 x1 S1 => ?_
  cases r with
  | true => rw [if_pos rfl] at e ⊢; exact h1 B0 B F1 ρ1 σ H1 E c ρ' S1 e fun F2 σ2 H2 x2 S2 k2 => q F2 σ2 H2 (x1.trans x2) S2 fun i hi => k2 i fun z => hi (List.mem_append_left _ z)
  | false => rw [if_neg Bool.false_ne_true] at e ⊢; exact h2 B0 B F1 ρ1 σ H1 E c ρ' S1 e fun F2 σ2 H2 x2 S2 k2 => q F2 σ2 H2 (x1.trans x2) S2 fun i hi => k2 i fun z => hi (List.mem_append_right _ z)
/-! while -/
def whileM (c : M Bool) (b : M Ct) : Nat → M Ct
  | 0 => fun _ => none
  | n + 1 => bnd c fun k => if k = true then bnd b fun x => match x with
      | .nx => whileM c b n
      | .ct => whileM c b n
      | .bk => pur .nx
      | .rt r => pur (.rt r)
    else pur .nx
theorem ds_while (n : Nat) (C : XOk X) (hc : DT X e b1) (hb : DSs X sts A c1) : DS X (.While e sts [] pos) A (whileM b1 c1 n) := by
  obtain ⟨tc, pc, hc⟩ := hc.ex
  obtain ⟨t, pt, hb⟩ := hb.ex
  refine ⟨_, ps_while C.pass pc pt, fun B0 B F ρ σ H E c ρ' S e q => ?_⟩
  refine ⟨fun m σ1 H1 => ∃ F1 ρ1, Ext B F F1 ∧ SOk X.K B0 B F1 ρ1 σ1 H1 ∧ (∀ i : Nat, i ∉ A → σ1[i]? = σ[i]?) ∧ whileM b1 c1 m ρ1 = some (c, ρ'), ⟨n, F, ρ, Ext.refl B F, S, fun _ _ => rfl, e⟩, ?_⟩
  rintro m σ1 H1 ⟨F1, ρ1, x1, S1, k1, e1⟩
  cases m with
  | zero => cases e1
  | succ m =>
    obtain ⟨k, ρ2, e2, e1⟩ := bnd_some e1
    refine hc B0 B F1 ρ1 σ1 H1 _ k ρ2 S1 e2 fun F2 H2 x2 S2 => ?_
    cases k with
    | false =>
      rw [if_neg Bool.false_ne_true] at e1 ⊢
      cases e1
      exact q F2 σ1 H2 (x1.trans x2) S2 k1
    | true =>
      rw [if_pos rfl] at e1 ⊢
      obtain ⟨x, ρ3, e3, e1⟩ := bnd_some e1
      refine ⟨fun σ3 H3 => ∃ F3 ρ3, Ext B F F3 ∧ SOk X.K B0 B F3 ρ3 σ3 H3 ∧ (∀ i : Nat, i ∉ A → σ3[i]? = σ[i]?) ∧ whileM b1 c1 m ρ3 = some (c, ρ'), fun σ' H' w => ⟨m, Nat.lt_succ_self m, w⟩, ?_⟩
      refine hb B0 B F2 ρ2 σ1 H2 _ x ρ3 S2 e3 fun F3 σ3 H3 x3 S3 k3 => ?_
      have kk : ∀ i : Nat, i ∉ A → σ3[i]? = σ[i]? := fun i hi => (k3 i hi).trans (k1 i hi)
      have xx := x1.trans (x2.trans x3)
      cases x with
      | nx => exact ⟨F3, ρ3, xx, S3, kk, e1⟩
      | ct => exact ⟨F3, ρ3, xx, S3, kk, e1⟩
      | bk => cases e1; exact q F3 σ3 H3 xx S3 kk
      | rt r => cases e1; exact q F3 σ3 H3 xx S3 kk
end
end DL
set_option Elab.async false
set_option linter.all false
set_option maxRecDepth 100000
set_option maxHeartbeats 1000000
namespace DL
open PySem PySem.Spec L2

/-! ### targets -/
def RdG (g : TG) (K : PySem.W.Frag) (A : List Nat) (τ : D → M Unit) : Prop := ∀ (B0 B F : Hp) (ρ : En) (σ : List (Option V)) (H : Hp) (Q : List (Option V) → Hp → Prop) (v : V) (d : D) (u : Unit) (ρ' : En), SOk K B0 B F ρ σ H → Rep F v d → τ d ρ = some (u, ρ') →
  (∀ σ', SOk K B0 B F ρ' σ' H → σ'.length = σ.length → (∀ i : Nat, i ∉ A → σ'[i]? = σ[i]?) → Q σ' H) → g v σ H Q
def RdGs (g : TGs) (K : PySem.W.Frag) (A : List Nat) (τ : List D → M Unit) : Prop := ∀ (B0 B F : Hp) (ρ : En) (σ : List (Option V)) (H : Hp) (Q : List (Option V) → Hp → Prop) (vs : List V) (ds : List D) (u : Unit) (ρ' : En), SOk K B0 B F ρ σ H → Reps F vs ds → τ ds ρ = some (u, ρ') →
  (∀ σ', SOk K B0 B F ρ' σ' H → σ'.length = σ.length → (∀ i : Nat, i ∉ A → σ'[i]? = σ[i]?) → Q σ' H) → g vs σ H Q
structure DG (X : Cx) (tg : Expr) (A : List Nat) (τ : D → M Unit) : Prop where
  ex : ∃ g, PG X tg g ∧ RdG g X.K A τ
structure DGs (X : Cx) (tgs : List Expr) (A : List Nat) (τ : List D → M Unit) : Prop where
  ex : ∃ g, PGs X tgs g ∧ RdGs g X.K A τ
def tgM (i : Nat) (d : D) : M Unit := fun ρ => match ρ[i]? with
  | none => none
  | some _ => some ((), ρ.set i (.fr d))
def tgNil : List D → M Unit := fun ds ρ => match ds with
  | [] => some ((), ρ)
  | _ => none
def tgCons (τ1 : D → M Unit) (τ2 : List D → M Unit) : List D → M Unit := fun ds => match ds with
  | d :: r => bnd (τ1 d) fun _ => τ2 r
  | [] => fun _ => none
def tgTup (n : Nat) (τ1 : List D → M Unit) : D → M Unit := fun d => match d with
  | .tuple ds => if ds.length = n then τ1 ds else fun _ => none
  | _ => fun _ => none
theorem rdg_name {K : PySem.W.Frag} {i : Nat} : RdG (gName i) K [i] (tgM i) := by
  intro B0 B F ρ σ H Q v d u ρ' S k e q
  unfold tgM at e
  split at e <;> cases e
  rename_i sl es
  have hi : i < σ.length := by rw [← S.len]; exact (List.getElem?_eq_some_iff.mp es).1
  exact q _ (S.store hi ⟨v, rfl, k⟩ fun z => by cases z) List.length_set fun j hj => List.getElem?_set_ne fun z => hj (by simp [z])
section
variable {X : Cx} {e e2 tg iter elt : Expr} {es : List Expr} {pos p q : Pos} {A A1 A2 : List Nat} {τ : M Rv} {sts : List Stmt} {c1 : M Ct}
theorem dg_name (i : Nat) {x : Str} (hN : X.N.Nodup) (hi : X.N[i]? = some x := by rfl) (hx : Loc X.env.scope x := by first | exact Or.inl rfl | exact Or.inr rfl) (hf : X.fn x = true ∨ X.env.scope.names.lookup x = some .local := by first | exact .inl rfl | exact .inr rfl) :
    DG X (.Name x pos) [i] (tgM i) := ⟨_, pg_name hN hi hx hf, rdg_name⟩
theorem dgs_nil : DGs X [] [] tgNil := ⟨_, pgs_nil, fun B0 B F ρ σ H Q vs ds u ρ' S k e q => by
  unfold tgNil at e
  split at e <;> cases e
  cases k
  exact ⟨rfl, q σ S rfl fun _ _ => rfl⟩⟩
theorem dgs_cons {t : Expr} {τ1 : D → M Unit} {τ2 : List D → M Unit} (h1 : DG X t A1 τ1) (h2 : DGs X es A2 τ2) (hs : (assignEach (t :: es) X.env).map (·.2) = assign t X.env :: (assignEach es X.env).map (·.2) := by rfl) :
    DGs X (t :: es) (A1 ++ A2) (tgCons τ1 τ2) := by
  obtain ⟨g1, p1, q1⟩ := h1.ex
  obtain ⟨g2, p2, q2⟩ := h2.ex
  refine ⟨_, pgs_cons p1 p2 hs, fun B0 B F ρ σ H Q vs ds u ρ' S k e q => ?_⟩
  unfold tgCons at e
  split at e
  · cases k with
    | cons a b =>
      obtain ⟨u1, ρ1, e1, e⟩ := bnd_some e
      refine ⟨_, _, rfl, q1 B0 B F ρ σ H _ _ _ u1 ρ1 S a e1 fun σ1 S1 l1 k1 => ?_⟩
      exact q2 B0 B F ρ1 σ1 H Q _ _ u ρ' S1 b e fun σ2 S2 l2 k2 => q σ2 S2 (l2.trans l1) fun i hi => (k2 i fun z => hi (List.mem_append_right _ z)).trans (k1 i fun z => hi (List.mem_append_left _ z))
  · cases e
theorem dg_tup {k : Nat} {τ1 : List D → M Unit} (hc : X.calm = true) (h : DGs X es A τ1) (hn : (assignEach es X.env).length = es.length := by rfl) (hst : (assignEach es X.env).findIdx? (·.1) = none := by rfl) : DG X (.Tuple es k pos) A (tgTup es.length τ1) := by
  obtain ⟨g, pg, h⟩ := h.ex
  refine ⟨_, pg_tup (n := es.length) hc pg hn hst, fun B0 B F ρ σ H Q v d u ρ' S k e q => ?_⟩
  unfold tgTup at e
  split at e
  · split at e
    · rename_i hl
      cases k with
      | tup a b => exact ⟨_, _, rfl, SqT.of (S.fh _ _ a), by rw [b.len]; exact hl, h B0 B F ρ σ H Q _ _ u ρ' S b e q⟩
    · cases e
  · cases e

/-! ### what is walked -/
structure Walk (K : PySem.W.Frag) (F0 : Hp) (J : It) (l : List D) : Prop where
  go : ∀ (i : Nat) (H : Hp), Sb F0 H → i < l.length → J.go i H
  stop : ∀ H : Hp, Sb F0 H → J.stop l.length H
  yld : ∀ (i : Nat) (H : Hp) (x : V) (H' : Hp) (d : D), Sb F0 H → l[i]? = some d → J.yld i H x H' → ∀ (B0 B F : Hp) (ρ : En) (σ : List (Option V)), Sb F0 F → SOk K B0 B F ρ σ H → ∃ F', Ext B F F' ∧ SOk K B0 B F' ρ σ H' ∧ Rep F' x d
def RdI (K : PySem.W.Frag) (wi : TI) (τ : M (List D)) : Prop := ∀ (B0 B F : Hp) (ρ : En) (σ : List (Option V)) (H : Hp) (R : It → Hp → Prop) (l : List D) (ρ' : En), SOk K B0 B F ρ σ H → τ ρ = some (l, ρ') →
  (∀ J F' H', Ext B F F' → SOk K B0 B F' ρ' σ H' → Walk K F' J l → R J H') → wi σ H R
structure DI (X : Cx) (tg iter : Expr) (τ : M (List D)) : Prop where
  ex : ∃ wi, PI X tg iter wi ∧ RdI X.K wi τ
def forM (g : D → M Unit) (b : M Ct) : List D → M Ct
  | [] => pur .nx
  | d :: r => bnd (g d) fun _ => bnd b fun x => match x with
    | .nx => forM g b r
    | .ct => forM g b r
    | .bk => pur .nx
    | .rt v => pur (.rt v)
theorem ds_for {τi : M (List D)} {g : D → M Unit} (C : XOk X) (hi : DI X tg iter τi) (hg : DG X tg A1 g) (hb : DSs X sts A2 c1) (hs : ∀ x, foldedSetIterable iter X.env x = pure x := by intro _; rfl) :
    DS X (.For tg iter sts [] pos) (A1 ++ A2) (bnd τi (forM g c1)) := by
  obtain ⟨wi, pi, hi⟩ := hi.ex
  obtain ⟨tg', pg, hg⟩ := hg.ex
  obtain ⟨t, pt, hb⟩ := hb.ex
  refine ⟨_, ps_for C.pass C.calm pi pg pt hs, fun B0 B F ρ σ H E c ρ' S e q => ?_⟩
  obtain ⟨l, ρ0, e0, e⟩ := bnd_some e
  refine hi B0 B F ρ σ H _ l ρ0 S e0 fun J F0 H0 x0 S0 W => ?_
  refine ⟨fun i m σ1 H1 => m = l.length - i ∧ i ≤ l.length ∧ ∃ F1 ρ1, Ext B F0 F1 ∧ SOk X.K B0 B F1 ρ1 σ1 H1 ∧ (∀ j : Nat, j ∉ A1 ++ A2 → σ1[j]? = σ[j]?) ∧ forM g c1 (l.drop i) ρ1 = some (c, ρ'), ⟨_, rfl, Nat.zero_le _, F0, ρ0, Ext.refl B F0, S0, fun _ _ => rfl, e⟩, ?_⟩
  rintro i m σ1 H1 ⟨rfl, hi, F1, ρ1, x1, S1, k1, e1⟩
  have sF : Sb F0 H1 := x1.1.trans S1.fh
  by_cases hlt : i < l.length
  · refine .inr ⟨W.go i H1 sF hlt, fun σ' H' => ∃ F3 ρ3, Ext B F0 F3 ∧ SOk X.K B0 B F3 ρ3 σ' H' ∧ (∀ j : Nat, j ∉ A1 ++ A2 → σ'[j]? = σ[j]?) ∧ forM g c1 (l.drop (i + 1)) ρ3 = some (c, ρ'), fun σ' H' ⟨F3, ρ3, a, b, cc, d⟩ => ⟨_, ?_, rfl, hlt, F3, ρ3, a, b, cc, d⟩, fun x H' y => ?_⟩
    · omega
    · have hd : l[i]? = some l[i] := List.getElem?_eq_getElem hlt
      obtain ⟨F2, x2, S2, r2⟩ := W.yld i H1 x H' _ sF hd y B0 B F1 ρ1 σ1 x1.1 S1
      rw [List.drop_eq_getElem_cons hlt] at e1
      obtain ⟨u, ρ2, e2, e1⟩ := bnd_some e1
      obtain ⟨z, ρ3, e3, e1⟩ := bnd_some e1
      refine hg B0 B F2 ρ1 σ1 H' _ x _ u ρ2 S2 r2 e2 fun σ2 S2' _ k2 => ?_
      refine hb B0 B F2 ρ2 σ2 H' _ z ρ3 S2' e3 fun F3 σ3 H3 x3 S3 k3 => ?_
      have kk : ∀ j : Nat, j ∉ A1 ++ A2 → σ3[j]? = σ[j]? := fun j hj => ((k3 j fun w => hj (List.mem_append_right _ w)).trans (k2 j fun w => hj (List.mem_append_left _ w))).trans (k1 j hj)
      have xx := x1.trans (x2.trans x3)
      cases z with
      | nx => exact ⟨F3, ρ3, xx, S3, kk, e1⟩
      | ct => exact ⟨F3, ρ3, xx, S3, kk, e1⟩
      | bk => cases e1; exact q F3 σ3 H3 (x0.trans xx) S3 kk
      | rt r => cases e1; exact q F3 σ3 H3 (x0.trans xx) S3 kk
  · have ei : i = l.length := by omega
    subst ei
    rw [List.drop_length] at e1
    cases e1
    exact .inl ⟨W.stop H1 sF, q F1 σ1 H1 (x0.trans x1) S1 k1⟩
/-! lists, tuples -/
def listOf : D → Option (List D)
  | .list l => some l
  | _ => none
def tupOf : D → Option (List D)
  | .tuple l => some l
  | _ => none
theorem listOf_some {d : D} {l : List D} (h : listOf d = some l) : d = .list l := by
  cases d <;> cases h
  rfl
theorem tupOf_some {d : D} {l : List D} (h : tupOf d = some l) : d = .tuple l := by
  cases d <;> cases h
  rfl
theorem walk_list {K : PySem.W.Frag} {F : Hp} {a : Addr} {vs : List V} {l : List D} (e : F a = some (.lst vs)) (r : Reps F vs l) : Walk K F (Itl K a) l where
  go := fun i H s hi => by
    have h : i < vs.length := by rw [r.len]; exact hi
    exact ⟨vs, vs[i], SqL.of (s _ _ e), List.getElem?_eq_getElem h⟩
  stop := fun H s => ⟨vs, SqL.of (s _ _ e), by rw [r.len]; exact Nat.le_refl _⟩
  yld := fun i H x H' d s hd y B0 B F' ρ σ sF S => by
    obtain ⟨rfl, y⟩ := y
    obtain ⟨v, ev, k⟩ := r.get hd
    have := (y vs (SqL.of (s _ _ e))).symm.trans ev
    cases this
    exact ⟨F', Ext.refl B F', S, k.mono sF⟩
theorem walk_tup {K : PySem.W.Frag} {F : Hp} {a : Addr} {vs : List V} {l : List D} (e : F a = some (.tup vs)) (r : Reps F vs l) : Walk K F (Itt K a) l where
  go := fun i H s hi => by
    have h : i < vs.length := by rw [r.len]; exact hi
    exact ⟨vs, vs[i], SqT.of (s _ _ e), List.getElem?_eq_getElem h⟩
  stop := fun H s => ⟨vs, SqT.of (s _ _ e), by rw [r.len]; exact Nat.le_refl _⟩
  yld := fun i H x H' d s hd y B0 B F' ρ σ sF S => by
    obtain ⟨rfl, y⟩ := y
    obtain ⟨v, ev, k⟩ := r.get hd
    have := (y vs (SqT.of (s _ _ e))).symm.trans ev
    cases this
    exact ⟨F', Ext.refl B F', S, k.mono sF⟩
theorem di_list (h : DX X e τ) : DI X tg e (bnd (bnd τ keep) fun d => lft (listOf d)) := by
  obtain ⟨t, pe, h⟩ := h.ex
  refine ⟨_, pi_list pe, fun B0 B F ρ σ H R l ρ' S e q => ?_⟩
  obtain ⟨d, ρ1, e1, e⟩ := bnd_some e
  obtain ⟨e5, rfl⟩ := lft_some e
  refine rd_keep h S e1 fun v F' H' x' S' k => ?_
  cases listOf_some e5
  cases k with
  | lst a b => exact ⟨_, rfl, ⟨_, SqL.of (S'.fh _ _ a)⟩, q _ F' H' x' S' (walk_list a b)⟩
theorem di_tup (h : DX X e τ) : DI X tg e (bnd (bnd τ keep) fun d => lft (tupOf d)) := by
  obtain ⟨t, pe, h⟩ := h.ex
  refine ⟨_, pi_tup pe, fun B0 B F ρ σ H R l ρ' S e q => ?_⟩
  obtain ⟨d, ρ1, e1, e⟩ := bnd_some e
  obtain ⟨e5, rfl⟩ := lft_some e
  refine rd_keep h S e1 fun v F' H' x' S' k => ?_
  cases tupOf_some e5
  cases k with
  | tup a b => exact ⟨_, rfl, ⟨_, SqT.of (S'.fh _ _ a)⟩, q _ F' H' x' S' (walk_tup a b)⟩
/-! ranges -/
def rangeFrom (i : Int) : Nat → List D
  | 0 => []
  | n + 1 => .int i :: rangeFrom (i + 1) n
theorem rangeFrom_len : ∀ (n : Nat) (i : Int), (rangeFrom i n).length = n
  | 0, _ => rfl
  | n + 1, i => by rw [rangeFrom, List.length_cons, rangeFrom_len n]
theorem rangeFrom_get : ∀ (n : Nat) (i : Int) (k : Nat) (d : D), (rangeFrom i n)[k]? = some d → d = .int (i + k)
  | 0, _, _, _, h => by simp [rangeFrom] at h
  | n + 1, i, 0, d, h => by
    simp [rangeFrom] at h
    subst h
    simp
  | n + 1, i, k + 1, d, h => by
    have := rangeFrom_get n (i + 1) k d (by simpa [rangeFrom] using h)
    rw [this, show i + 1 + (k : Int) = i + ((k + 1 : Nat) : Int) by omega]
theorem walk_rng {K : PySem.W.Frag} {F : Hp} {lo : Int} {n : Nat} : Walk K F (Itr lo n) (rangeFrom lo n) where
  go := fun i H s hi => by rw [rangeFrom_len] at hi; exact hi
  stop := fun H s => by rw [rangeFrom_len]; exact Nat.le_refl _
  yld := fun i H x H' d s hd y B0 B F' ρ σ sF S => by
    obtain ⟨rfl, rfl⟩ := y
    rw [rangeFrom_get _ _ _ _ hd]
    exact ⟨F', Ext.refl B F', S, .int _⟩
/-- within the bounds of a machine's index -/
def okR : Int → Bool
  | .ofNat k => Nat.ble k 4611686018427387903
  | .negSucc k => Nat.ble k 4611686018427387903
theorem okR_ok {n : Int} (h : okR n = true) : -4611686018427387904 ≤ n ∧ n < 4611686018427387904 := by
  cases n with
  | ofNat k => have := Nat.le_of_ble_eq_true h; simp only [Int.ofNat_eq_natCast]; omega
  | negSucc k => have := Nat.le_of_ble_eq_true h; omega
theorem okR_of {n : Int} (h1 : -4611686018427387904 ≤ n) (h2 : n < 4611686018427387904) : okR n = true := by
  cases n with
  | ofNat k => exact Nat.ble_eq_true_of_le (by simp only [Int.ofNat_eq_natCast] at h2; omega)
  | negSucc k => exact Nat.ble_eq_true_of_le (by omega)
def rng1 : List D → Option (List D)
  | [.int n] => if okR n then some (rangeFrom 0 n.toNat) else none
  | _ => none
def rng2 : List D → Option (List D)
  | [.int i, .int j] => if okR i && okR j then some (rangeFrom i (j - i).toNat) else none
  | _ => none
theorem di_range1 {τs : M (List D)} (hm : X.mg "range" = none) (h : DA X [e] τs) (hg : Gl X "range" := by rfl) (hs : starEach [e] X.env = [(false, eval e X.env)] := by rfl) :
    DI X tg (.Call (.Name "range" p) [e] [] pos) (bnd τs fun ds => lft (rng1 ds)) := by
  obtain ⟨t, pa, h⟩ := h.ex
  refine ⟨_, pi_range1 hg hm pa hs, fun B0 B F ρ σ H R l ρ' S e q => ?_⟩
  obtain ⟨ds, ρ1, e1, e⟩ := bnd_some e
  obtain ⟨e5, rfl⟩ := lft_some e
  refine h B0 B F ρ σ H _ ds ρ' S e1 fun vs F' H' x' S' k => ?_
  unfold rng1 at e5
  split at e5
  · rename_i n
    split at e5
    case isFalse => cases e5
    rename_i hz
    cases e5
    have hz := okR_ok hz
    cases k with
    | cons a b =>
      cases a; cases b
      exact ⟨n, rfl, by omega, by omega, q _ F' H' x' S' walk_rng⟩
  · cases e5
theorem di_range2 {τs : M (List D)} (hm : X.mg "range" = none) (h : DA X [e, e2] τs) (hg : Gl X "range" := by rfl) (hs : starEach [e, e2] X.env = [(false, eval e X.env), (false, eval e2 X.env)] := by rfl) (hs2 : starEach [e2] X.env = [(false, eval e2 X.env)] := by rfl) :
    DI X tg (.Call (.Name "range" p) [e, e2] [] pos) (bnd τs fun ds => lft (rng2 ds)) := by
  obtain ⟨t, pa, h⟩ := h.ex
  refine ⟨_, pi_range2 hg hm pa hs hs2, fun B0 B F ρ σ H R l ρ' S e q => ?_⟩
  obtain ⟨ds, ρ1, e1, e⟩ := bnd_some e
  obtain ⟨e5, rfl⟩ := lft_some e
  refine h B0 B F ρ σ H _ ds ρ' S e1 fun vs F' H' x' S' k => ?_
  unfold rng2 at e5
  split at e5
  · rename_i i j
    split at e5
    case isFalse => cases e5
    rename_i hz
    cases e5
    simp only [Bool.and_eq_true] at hz
    have hz1 := okR_ok hz.1
    have hz2 := okR_ok hz.2
    cases k with
    | cons a b =>
      cases a
      cases b with
      | cons a b =>
        cases a; cases b
        exact ⟨i, j, rfl, by omega, q _ F' H' x' S' walk_rng⟩
  · cases e5
end
end DL
set_option Elab.async false
set_option linter.all false
set_option maxRecDepth 100000
set_option maxHeartbeats 1000000
namespace DL
open PySem PySem.Spec L2

/-! ### a def -/
def outs (A : List Nat) : Nat → En → En → Option En
  | _, [], _ => some []
  | j, .own _ :: r, ρ => if A.contains j then none else match ρ[j]? with
    | some (.own d) => match outs A (j + 1) r ρ with
      | some o => some (.own d :: o)
      | none => none
    | _ => none
  | j, _ :: r, ρ => match outs A (j + 1) r ρ with
    | some o => some (.un :: o)
    | none => none
theorem outs_ok {A : List Nat} {ρ : En} : ∀ {ins : En} {j : Nat} {o : En}, outs A j ins ρ = some o → o.length = ins.length ∧ ∀ (k : Nat) (sl : Sl), o[k]? = some sl → sl = .un ∨ ∃ d, sl = .own d ∧ (j + k) ∉ A ∧ ρ[j + k]? = some (.own d)
  | [], j, o, h => by
    simp only [outs] at h
    cases h
    exact ⟨rfl, fun k sl e => by simp at e⟩
  | s :: r, j, o, h => by
    have other : ∀ {x : Sl}, (match outs A (j + 1) r ρ with
      | some o => some (x :: o)
      | none => none) = some o → (x = .un ∨ ∃ d, x = .own d ∧ j ∉ A ∧ ρ[j]? = some (.own d)) → o.length = (s :: r).length ∧ ∀ (k : Nat) (sl : Sl), o[k]? = some sl → sl = .un ∨ ∃ d, sl = .own d ∧ (j + k) ∉ A ∧ ρ[j + k]? = some (.own d) := fun {x} h hx => by
      split at h
      · rename_i o' e
        cases h
        obtain ⟨h1, h2⟩ := outs_ok e
        refine ⟨by rw [List.length_cons, List.length_cons, h1], fun k sl e => ?_⟩
        cases k with
        | zero =>
          cases e
          exact hx
        | succ k =>
          rcases h2 k sl (by simpa using e) with q | ⟨d, q1, q2, q3⟩
          · exact .inl q
          · exact .inr ⟨d, q1, by rw [show j + (k + 1) = j + 1 + k by omega]; exact q2, by rw [show j + (k + 1) = j + 1 + k by omega]; exact q3⟩
      · cases h
    cases s with
    | own d0 =>
      simp only [outs] at h
      split at h
      · cases h
      · rename_i hA
        split at h
        · rename_i d ed
          refine other h (.inr ⟨d, rfl, ?_, ed⟩)
          simpa using hA
        · cases h
    | un => simp only [outs] at h; exact other h (.inl rfl)
    | fr d => simp only [outs] at h; exact other h (.inl rfl)
    | rd d => simp only [outs] at h; exact other h (.inl rfl)
    | scr d => simp only [outs] at h; exact other h (.inl rfl)
abbrev Fn := En → Option (Rv × En)
def endM (A : List Nat) (ins : En) : Option (Ct × En) → Option (Rv × En)
  | some (.rt (.rep d), ρ) => match outs A 0 ins ρ with
    | some o => some (.rep d, o)
    | none => none
  | some (.rt (.new d), ρ) => match outs A 0 ins ρ with
    | some o => some (.new d, o)
    | none => none
  | some (.nx, ρ) => match outs A 0 ins ρ with
    | some o => some (.rep .none, o)
    | none => none
  | _ => none
def fnM (A : List Nat) (n : Nat) (body : M Ct) : Fn := fun ins => endM A ins (body (ins ++ List.replicate (n - ins.length) .un))
def spD (K : PySem.W.Frag) (n : Nat) (φ : Fn) : Sp := fun vs H Q _ => vs.length = n ∧ ∃ B0 F ins r o, SOk K B0 B0 F ins (vs.map some) H ∧ φ ins = some (r, o) ∧
  ∀ v F' H', Ext B0 F F' → SOk K B0 B0 F' o (vs.map some) H' → RvOk K B0 B0 F' o (vs.map some) H' v r → Q v H'
section
variable {K : PySem.W.Frag} {B0 B F : Hp} {ρ : En} {σ : List (Option V)} {H : Hp}
theorem SOk.more (S : SOk K B0 B F ρ σ H) (m : Nat) : SOk K B0 B F (ρ ++ List.replicate m .un) (σ ++ List.replicate m none) H := by
  have at1 : ∀ (i : Nat) (sl : Sl), (ρ ++ List.replicate m Sl.un)[i]? = some sl → sl = .un ∨ (i < ρ.length ∧ ρ[i]? = some sl ∧ (σ ++ List.replicate m none)[i]? = σ[i]?) := fun i sl e => by
    by_cases hi : i < ρ.length
    · rw [List.getElem?_append_left hi] at e
      exact .inr ⟨hi, e, List.getElem?_append_left (by rw [← S.len]; exact hi)⟩
    · rw [List.getElem?_append_right (by omega), List.getElem?_replicate] at e
      split at e <;> cases e
      exact .inl rfl
  have own1 : ∀ i : Nat, ownS (ρ ++ List.replicate m Sl.un)[i]? = true → ownS ρ[i]? = true ∧ (σ ++ List.replicate m none)[i]? = σ[i]? := fun i h => by
    cases q : (ρ ++ List.replicate m Sl.un)[i]? with
    | none => rw [q] at h; cases h
    | some sl =>
      rcases at1 i sl q with rfl | ⟨_, a, b⟩
      · rw [q] at h; cases h
      · rw [q] at h; exact ⟨by rw [a]; exact h, b⟩
  refine ⟨S.bb, S.bh, S.fh, by rw [List.length_append, List.length_append, List.length_replicate, List.length_replicate, S.len], fun i sl e => ?_, fun i j p ne h1 h2 e1 e2 => ?_⟩
  · rcases at1 i sl e with rfl | ⟨_, a, b⟩
    · trivial
    · rw [b]; exact S.slot i sl a
  · obtain ⟨a1, b1⟩ := own1 i h1
    obtain ⟨a2, b2⟩ := own1 j h2
    rw [b1] at e1
    rw [b2] at e2
    exact S.sep i j p ne a1 a2 e1 e2
/-- back to the parameters -/
theorem SOk.back {ins o : En} {τ : List (Option V)} (S : SOk K B0 B F ρ σ H) (hl : o.length = τ.length) (h : ∀ (k : Nat) (sl : Sl), o[k]? = some sl → sl = .un ∨ ∃ d, sl = .own d ∧ ρ[k]? = some (.own d) ∧ σ[k]? = τ[k]?) : SOk K B0 B F o τ H := by
  have own1 : ∀ i : Nat, ownS o[i]? = true → ownS ρ[i]? = true ∧ σ[i]? = τ[i]? := fun i hh => by
    cases q : o[i]? with
    | none => rw [q] at hh; cases hh
    | some sl =>
      rcases h i sl q with rfl | ⟨d, rfl, a, b⟩
      · rw [q] at hh; cases hh
      · exact ⟨by rw [a]; rfl, b⟩
  refine ⟨S.bb, S.bh, S.fh, hl, fun i sl e => ?_, fun i j p ne h1 h2 e1 e2 => ?_⟩
  · rcases h i sl e with rfl | ⟨d, rfl, a, b⟩
    · trivial
    · rw [← b]; exact S.slot i _ a
  · obtain ⟨a1, b1⟩ := own1 i h1
    obtain ⟨a2, b2⟩ := own1 j h2
    rw [← b1] at e1
    rw [← b2] at e2
    exact S.sep i j p ne a1 a2 e1 e2
end
theorem fn_d {P : Program} {w : World} {K : PySem.W.Frag} {mg : Str → Option Value} {base : Heap} {x qual : Str} {st : Stmt} {f : Addr} {fd : FuncData} {N ps : List Str} {k : Nat} {A : List Nat} {τ : M Ct}
    (F : Fun K x qual st f fd) (S : FnScope N ps (defScope st))
    (body : ∀ (cdv : Value) (Ar : Around) (outer : List Env) (s : Shared) (H : Hp) (E : XK), Room k (Ar.deeper (PyProof.Rows.envOfC qual (defScope st) s.heap.objs.size f cdv)) →
      DSs (cxOf CX0 P w K mg base N qual (defScope st) f cdv Ar outer s H E).nox (defBody st) A τ) : FnOk P w K mg base CX0 (k + 1) f fd ps (spD K ps.length (fnM A N.length τ)) := by
  refine F.ok S (fun vs H Q E h => h.1) (fun cdv Ar outer s H vs Q E hr h => ?_)
  obtain ⟨hl, B0, F0, ins, r, o, S0, e, q⟩ := h
  obtain ⟨t, pt, h⟩ := (body cdv Ar outer s H E hr).ex
  refine ⟨t, pt, ?_⟩
  have il : ins.length = vs.length := by rw [S0.len, List.length_map]
  unfold fnM endM at e
  have S1 := S0.more (N.length - vs.length)
  rw [il] at e
  have fin : ∀ {c : Ct} {ρ' : En} {r' : Rv} (hb : τ (ins ++ List.replicate (N.length - vs.length) Sl.un) = some (c, ρ')), (match outs A 0 ins ρ' with
      | some o => some (r', o)
      | none => none) = some (r, o) → (∀ F' σ' H' (Qn : (List (Option V)) → Hp → Prop), Ext B0 F0 F' → SOk K B0 B0 F' ρ' σ' H' → (∀ i : Nat, i ∉ A → σ'[i]? = (start N vs)[i]?) → (∀ v, RvOk K B0 B0 F' ρ' σ' H' v r' → (∀ i, r' ≠ .bor i) → Q v H')) := fun {c ρ' r'} hb he F' σ' H' Qn x' S' k' v kv nb => by
    split at he
    · rename_i o' eo
      cases he
      obtain ⟨ol, oo⟩ := outs_ok eo
      have look : ∀ (k : Nat) (sl : Sl), o[k]? = some sl → sl = .un ∨ ∃ d, sl = .own d ∧ ρ'[k]? = some (.own d) ∧ σ'[k]? = (vs.map some)[k]? := fun k sl ek => by
        have hk : k < vs.length := by
          have := (List.getElem?_eq_some_iff.mp ek).1
          omega
        rcases oo k sl ek with z | ⟨d, z, a, b⟩
        · exact .inl z
        · rw [Nat.zero_add] at a b
          refine .inr ⟨d, z, b, (k' k a).trans ?_⟩
          unfold L2.start
          exact List.getElem?_append_left (by rw [List.length_map]; exact hk)
      have S2 : SOk K B0 B0 F' o (vs.map some) H' := S'.back (ins := ins) (by rw [ol, il, List.length_map]) look
      refine q v F' H' x' S2 ?_
      cases r with
      | rep d => exact kv
      | new d =>
        obtain ⟨p, e1, e2, e3, e4, e5⟩ := kv
        refine ⟨p, e1, e2, e3, e4, fun i hi ei => ?_⟩
        cases qq : o[i]? with
        | none => rw [qq] at hi; cases hi
        | some sl =>
          rcases look i sl qq with rfl | ⟨d', rfl, a, b⟩
          · rw [qq] at hi; cases hi
          · exact e5 i (by rw [a]; rfl) (by rw [b]; exact ei)
      | bor i => exact absurd rfl (nb i)
    · cases he
  cases hb : τ (ins ++ List.replicate (N.length - vs.length) Sl.un) with
  | none => rw [hb] at e; cases e
  | some cr =>
    obtain ⟨c, ρ'⟩ := cr
    rw [hb] at e
    refine h B0 B0 F0 _ (L2.start N vs) H _ c ρ' (by unfold L2.start; exact S1) hb fun F' σ' H' x' S' k' => ?_
    cases c with
    | nx => exact fin hb e F' σ' H' (fun _ _ => True) x' S' k' .non (show Rep F' .non .none from .non) (fun i z => by cases z)
    | bk => cases e
    | ct => cases e
    | rt r0 =>
      intro v kv
      cases r0 with
      | rep d => exact fin hb e F' σ' H' (fun _ _ => True) x' S' k' v kv (fun i z => by cases z)
      | new d => exact fin hb e F' σ' H' (fun _ _ => True) x' S' k' v kv (fun i z => by cases z)
      | bor i => cases e

/-! ### a call -/
structure FnD (P : Program) (w : World) (K : PySem.W.Frag) (mg : Str → Option Value) (base : Heap) (x : Str) (k n : Nat) (φ : Fn) : Prop where
  ex : ∃ f fd ps, FnOk P w K mg base CX0 k f fd ps (spD K n φ) ∧ mg x = some (.ref f) ∧ PySem.W.keepIn K (.ref f) = true ∧ Binds K fd ps []
inductive Ag where
  | val (d : D) | sl (i : Nat)
def AgOk (F : Hp) (σ : List (Option V)) (v : V) : Ag → Prop
  | .val d => Rep F v d
  | .sl i => σ[i]? = some (some v)
inductive AgsOk (F : Hp) (σ : List (Option V)) : List V → List Ag → Prop
  | nil : AgsOk F σ [] []
  | cons {v : V} {a : Ag} {vs : List V} {as : List Ag} : AgOk F σ v a → AgsOk F σ vs as → AgsOk F σ (v :: vs) (a :: as)
theorem AgOk.mono {F F' : Hp} {σ : List (Option V)} {v : V} {a : Ag} (s : Sb F F') (h : AgOk F σ v a) : AgOk F' σ v a := by
  cases a with
  | val d => exact Rep.mono s h
  | sl i => exact h
def RdAg (K : PySem.W.Frag) (t : TA) (n : Nat) (τ : M (List Ag)) : Prop := ∀ (B0 B F : Hp) (ρ : En) (σ : List (Option V)) (H : Hp) (Q : List V → Hp → Prop) (as : List Ag) (ρ' : En), SOk K B0 B F ρ σ H → τ ρ = some (as, ρ') →
  (∀ vs F' H', Ext B F F' → SOk K B0 B F' ρ' σ H' → vs.length = n → AgsOk F' σ vs as → Q vs H') → t σ H Q
structure DG2 (X : Cx) (es : List Expr) (τ : M (List Ag)) : Prop where
  ex : ∃ t, PA X es t ∧ RdAg X.K t es.length τ
def agM (b : Bool) (r : Rv) : M Ag := match b, r with
  | true, .bor i => pur (.sl i)
  | _, r => bnd (keep r) fun d => pur (.val d)
section
variable {X : Cx} {e : Expr} {es : List Expr} {pos p : Pos} {τ : M Rv} {τs : M (List Ag)}
theorem ag_nil : DG2 X [] (fun ρ => some ([], ρ)) := ⟨_, pa_nil, fun B0 B F ρ σ H Q ds ρ' S e q => by
  cases e
  exact q [] F H (Ext.refl B F) S rfl .nil⟩
theorem ag_cons (b : Bool) (ha : DX X e τ) (hs : DG2 X es τs) (hst : starEach (e :: es) X.env = (false, eval e X.env) :: starEach es X.env := by rfl) : DG2 X (e :: es) (bnd (bnd τ (agM b)) fun a => bnd τs fun as => pur (a :: as)) := by
  obtain ⟨t, pe, h⟩ := ha.ex
  obtain ⟨ts, pas, hs⟩ := hs.ex
  refine ⟨_, pa_cons pe pas hst, fun B0 B F ρ σ H Q ds ρ' S e q => ?_⟩
  obtain ⟨a, ρ1, e1, e⟩ := bnd_some e
  obtain ⟨as, ρ2, e2, e⟩ := bnd_some e
  cases e
  obtain ⟨r, ρ0, e0, e1⟩ := bnd_some e1
  refine h B0 B F ρ σ H _ r ρ0 S e0 fun v F0 H0 x0 S0 k0 => ?_
  have fin : ∀ {F1 : Hp}, Ext B F F1 → SOk X.K B0 B F1 ρ1 σ H0 → AgOk F1 σ v a → ts σ H0 (fun xs H' => Q (v :: xs) H') := fun {F1} x1 S1 k1 =>
    hs B0 B F1 ρ1 σ H0 (fun vs H' => Q (v :: vs) H') as ρ' S1 e2 fun vs F2 H2 x2 S2 l2 k2 => q (v :: vs) F2 H2 (x1.trans x2) S2 (by rw [List.length_cons, l2]; rfl) (.cons (k1.mono x2.1) k2)
  have gen : bnd (keep r) (fun d => pur (Ag.val d)) ρ0 = some (a, ρ1) → ts σ H0 (fun xs H' => Q (v :: xs) H') := fun e1 => by
    obtain ⟨d, ρ3, e3, e1⟩ := bnd_some e1
    cases e1
    obtain ⟨F1, x1, S1, k1⟩ := keep_ok S0 k0 e3
    exact fin (x0.trans x1) S1 k1
  cases b with
  | false => exact gen e1
  | true =>
    cases r with
    | rep d => exact gen e1
    | new d => exact gen e1
    | bor i => cases e1; exact fin x0 S0 k0
/-- the arguments as the callee's slots, read alone -/
def insR : List Ag → En → Option En
  | [], _ => some []
  | .val d :: r, ρ => match insR r ρ with
    | some o => some (.fr d :: o)
    | none => none
  | .sl i :: r, ρ => match ρ[i]? with
    | some (.own d) => match insR r ρ with
      | some o => some (.rd d :: o)
      | none => none
    | some (.rd d) => match insR r ρ with
      | some o => some (.rd d :: o)
      | none => none
    | some (.fr d) => match insR r ρ with
      | some o => some (.fr d :: o)
      | none => none
    | some (.scr l) => match insR r ρ with
      | some o => some (.scr l :: o)
      | none => none
    | _ => none
theorem insR_ok {K : PySem.W.Frag} {B0 B F Bc : Hp} {ρ : En} {σ : List (Option V)} {H : Hp} (S : SOk K B0 B F ρ σ H) (s0 : Sb B0 Bc) : ∀ {as : List Ag} {vs : List V} {ins : En}, AgsOk F σ vs as → insR as ρ = some ins →
    (∀ (i : Nat) (p : Addr) (d : D), Ag.sl i ∈ as → σ[i]? = some (some (.ref p)) → (ρ[i]? = some (.own d) ∨ ρ[i]? = some (.rd d)) → ∀ o, H p = some o → Bc p = some o) → ins.length = vs.length ∧ ∀ (k : Nat) (sl : Sl), ins[k]? = some sl → ownS (some sl) = false ∧ SlOk K Bc Bc F H ((vs.map some)[k]?) sl
  | [], vs, ins, h, e, _ => by
    simp only [insR] at e
    cases e
    cases h
    exact ⟨rfl, fun k sl e => by simp at e⟩
  | a :: r, vs, ins, h, e, hB => by
    cases h with
    | @cons v _ vs' _ h1 h2 =>
    have ih := fun {o} (eo : insR r ρ = some o) => insR_ok S s0 h2 eo fun i p d hm => hB i p d (List.mem_cons_of_mem _ hm)
    have fin : ∀ {x : Sl}, (match insR r ρ with
      | some o => some (x :: o)
      | none => none) = some ins → ownS (some x) = false → SlOk K Bc Bc F H (some (some v)) x → ins.length = (v :: vs').length ∧ ∀ (k : Nat) (sl : Sl), ins[k]? = some sl → ownS (some sl) = false ∧ SlOk K Bc Bc F H (((v :: vs').map some)[k]?) sl := fun {x} h ho hx => by
      split at h
      · rename_i o eo
        cases h
        obtain ⟨i1, i2⟩ := ih eo
        refine ⟨by rw [List.length_cons, List.length_cons, i1], fun k sl ek => ?_⟩
        cases k with
        | zero => cases ek; exact ⟨ho, hx⟩
        | succ k => exact i2 k sl (by simpa using ek)
      · cases h
    cases a with
    | val d => simp only [insR] at e; exact fin e rfl ⟨v, rfl, h1⟩
    | sl i =>
      have h1 : σ[i]? = some (some v) := h1
      simp only [insR] at e
      split at e
      · rename_i d ed
        obtain ⟨p, e1, _, _, t⟩ := S.slot i _ ed
        rw [h1] at e1; cases e1
        refine fin e rfl ⟨p, rfl, t.mono (Sb.refl F) fun o eo => hB i p d List.mem_cons_self h1 (.inl ed) o eo⟩
      · rename_i d ed
        obtain ⟨p, e1, t⟩ := S.slot i _ ed
        rw [h1] at e1; cases e1
        refine fin e rfl ⟨p, rfl, t.mono (Sb.refl F) fun o eo => hB i p d List.mem_cons_self h1 (.inr ed) o (S.bh _ _ (S.bb _ _ eo))⟩
      · rename_i d ed
        obtain ⟨w, e1, k⟩ := S.slot i _ ed
        rw [h1] at e1; cases e1
        exact fin e rfl ⟨v, rfl, k⟩
      · rename_i d ed
        obtain ⟨p, e1, k⟩ := S.slot i _ ed
        rw [h1] at e1; cases e1
        exact fin e rfl ⟨p, rfl, SqL.sb s0 k⟩
      · cases e
def callM (φ : Fn) (τs : M (List Ag)) : M Rv := bnd τs fun as => fun ρ => match insR as ρ with
  | some ins => match φ ins with
    | some (.rep d, _) => some (.rep d, ρ)
    | some (.new d, _) => some (.new d, ρ)
    | _ => none
  | none => none
theorem dx_call {x : Str} {k n : Nat} {φ : Fn} (G : FnD X.prog X.w X.K X.mg X.base x k n φ) (hr : Room k X.A) (hx : Passes CX0 X E0) (ha : DG2 X (e :: es) τs) (hn : (e :: es).length = n := by rfl) (hg : Gl X x := by rfl)
    (hdb : (x == ("__debug__" : Str)) = false := by decide) (he : starEach (e :: es) X.env = (false, eval e X.env) :: starEach es X.env := by rfl) (hpl : (backTo pos (starEach es X.env)).any (·.1) = false := by rfl) :
    DX X (.Call (.Name x p) (e :: es) [] pos) (callM φ τs) := by
  obtain ⟨f, fd, ps, F, hm, hk, hb⟩ := G.ex
  obtain ⟨t, pa, h⟩ := ha.ex
  refine ⟨_, pe_call F hr hg hm hk hb .nil hx pa hdb he hpl, fun B0 B F0 ρ σ H Q r ρ' S e0 q => ?_⟩
  obtain ⟨as, ρ1, e1, e2⟩ := bnd_some e0
  refine h B0 B F0 ρ σ H _ as ρ1 S e1 fun vs F1 H1 x1 S1 l1 k1 => ?_
  split at e2
  · rename_i ins ei
    obtain ⟨il, io⟩ := insR_ok (Bc := H1) S1 (S1.bb.trans S1.bh) k1 ei fun i p _ _ _ _ o eo => eo
    have own0 : ∀ i : Nat, ownS ins[i]? = true → False := fun i hi => by
      cases qq : ins[i]? with
      | none => rw [qq] at hi; cases hi
      | some sl => rw [qq] at hi; rw [(io i sl qq).1] at hi; cases hi
    have SC : SOk X.K H1 H1 F1 ins (vs.map some) H1 := ⟨Sb.refl H1, Sb.refl H1, S1.fh, by rw [il, List.length_map], fun i sl e => (io i sl e).2, fun i j p ne h1 => (own0 i h1).elim⟩
    have go : ∀ {rr : Rv} {oo : En}, φ ins = some (rr, oo) → (rr, ρ1) = (r, ρ') → (∀ i, rr ≠ .bor i) → spD X.K n φ (vs ++ []) H1 Q E0 := fun {rr oo} ep er nb => by
      cases er
      rw [List.append_nil]
      refine ⟨l1.trans hn, H1, F1, ins, r, oo, SC, ep, fun v F' H' x' S' k' => ?_⟩
      have xB : Ext B F1 F' := x'.weak S1.bh
      have S2 : SOk X.K B0 B F' ρ' σ H' := ⟨S1.bb, S1.bh.trans S'.bh, S'.fh, S1.len, fun i sl e => by
        have qs := S1.slot i sl e
        cases sl with
        | un => trivial
        | fr d => obtain ⟨w, e1, k⟩ := qs; exact ⟨w, e1, k.mono x'.1⟩
        | own d =>
          obtain ⟨p, e1, a, b, t⟩ := qs
          obtain ⟨o, ho⟩ := t.ex
          exact ⟨p, e1, x'.2 p o ho a, b, t.mono x'.1 fun u eu => S'.bh _ _ eu⟩
        | rd d => obtain ⟨p, e1, t⟩ := qs; exact ⟨p, e1, t.mono x'.1 fun _ e => e⟩
        | scr l => exact qs, S1.sep⟩
      refine q v F' H' (x1.trans xB) S2 ?_
      cases r with
      | rep d => exact k'
      | new d =>
        obtain ⟨p, e1, e2, e3, e4, _⟩ := k'
        exact ⟨p, e1, e2, S1.bh.free e3, e4, notOwn_new S1 e3⟩
      | bor i => exact absurd rfl (nb i)
    split at e2
    · rename_i d oo ep
      exact go ep (Option.some.inj e2) fun i z => by cases z
    · rename_i d oo ep
      exact go ep (Option.some.inj e2) fun i z => by cases z
    · cases e2
  · cases e2
end
end DL
set_option Elab.async false
set_option linter.all false
set_option maxRecDepth 100000
set_option maxHeartbeats 1000000
namespace DL
open PySem PySem.Spec L2

section
variable {X : Cx} {e e2 o elt tg iter : Expr} {es : List Expr} {pos p q apos cpos : Pos} {τ τ1 τ2 : M Rv} {τs : M (List Ag)} {τd : M (List D)}
/-! ### f(deck, ..): the first argument an owned slot that the callee changes -/
def hasSl (i : Nat) : List Ag → Bool
  | [] => false
  | .sl j :: r => (i == j) || hasSl i r
  | _ :: r => hasSl i r
theorem hasSl_mem {i j : Nat} : ∀ {as : List Ag}, hasSl i as = false → Ag.sl j ∈ as → i ≠ j
  | [], _, h => by cases h
  | .val d :: r, h, hm => by
    rcases List.mem_cons.mp hm with z | z
    · cases z
    · exact hasSl_mem (as := r) h z
  | .sl k :: r, h, hm => by
    simp only [hasSl, Bool.or_eq_false_iff] at h
    rcases List.mem_cons.mp hm with z | z
    · cases z
      intro e
      subst e
      simp at h
    · exact hasSl_mem h.2 z
def callIO (i : Nat) (φ : Fn) (τs : M (List Ag)) : M Rv := fun ρ0 => match ρ0[i]? with
  | some (.own _) => match τs ρ0 with
    | some (as, ρ) => match ρ[i]? with
      | some (.own d) => if hasSl i as then none else match insR as ρ with
        | some ins => match φ (.own d :: ins) with
          | some (.rep r, .own d' :: _) => some (.rep r, ρ.set i (.own d'))
          | some (.new r, .own d' :: _) => some (.new r, ρ.set i (.own d'))
          | _ => none
        | none => none
      | _ => none
    | none => none
  | _ => none
theorem dx_callIO (i : Nat) {x y : Str} {k n : Nat} {φ : Fn} {pe' : Pos} (G : FnD X.prog X.w X.K X.mg X.base x k n φ) (hr : Room k X.A) (hx : Passes CX0 X E0) (ha : DG2 X es τs) (hn : es.length + 1 = n := by rfl) (hN : X.N[i]? = some y := by rfl)
    (hv : Vis X.env.scope y := by first | exact Or.inl rfl | exact Or.inr (Or.inl rfl) | exact Or.inr (Or.inr rfl)) (hg : Gl X x := by rfl) (hd : (y == ("__debug__" : Str)) = false := by decide) (hcd : (y == ("__classdict__" : Str)) = false := by decide)
    (hdb : (x == ("__debug__" : Str)) = false := by decide) (he : starEach (.Name y pe' :: es) X.env = (false, eval (.Name y pe') X.env) :: starEach es X.env := by rfl) (hpl : (backTo pos (starEach es X.env)).any (·.1) = false := by rfl) :
    DX X (.Call (.Name x p) (.Name y pe' :: es) [] pos) (callIO i φ τs) := by
  obtain ⟨f, fd, ps, F, hm, hk, hb⟩ := G.ex
  obtain ⟨t, pa, h⟩ := ha.ex
  refine ⟨_, pe_call F hr hg hm hk hb .nil hx (pa_cons (pe_var hN hv hd hcd) pa he) hdb he hpl, fun B0 B F0 ρ σ H Q r ρ' S e0 q => ?_⟩
  unfold callIO at e0
  split at e0
  · rename_i d0 q0
    split at e0
    · rename_i as ρ1 e1
      obtain ⟨a, ea, _⟩ := S.slot i _ q0
      refine ⟨_, ea, h B0 B F0 ρ σ H _ as ρ1 S e1 fun vs F1 H1 x1 S1 l1 k1 => ?_⟩
      split at e0
      · rename_i d1 q1
        split at e0
        · cases e0
        · rename_i hns
          split at e0
          · rename_i ins ei
            obtain ⟨a', ea', hFa, hBa, ta⟩ := S1.slot i _ q1
            rw [ea] at ea'; cases ea'
            obtain ⟨oa, hoa⟩ := ta.ex
            have hns : hasSl i as = false := by simpa using hns
            -- the callee's protected heap: all but the changed list
            let Bc : Hp := fun b => if b = a then none else H1 b
            have Bca : Bc a = none := if_pos rfl
            have Bcn : ∀ b, b ≠ a → Bc b = H1 b := fun b hb => if_neg hb
            have BcH : Sb Bc H1 := fun b u eb => by
              by_cases z : b = a
              · rw [z, Bca] at eb; cases eb
              · rw [Bcn b z] at eb; exact eb
            have BBc : Sb B Bc := fun b u eb => by
              have : b ≠ a := fun z => by rw [z, hBa] at eb; cases eb
              rw [Bcn b this]; exact S1.bh b u eb
            have cut : ∀ (j : Nat) (p' : Addr) (d' : D), i ≠ j → σ[j]? = some (some (.ref p')) → (ρ1[j]? = some (.own d') ∨ ρ1[j]? = some (.rd d')) → p' ≠ a := fun j p' d' ij ej hs z => by
              subst z
              rcases hs with qj | qj
              · exact S1.sep i j p' ij (by rw [q1]; rfl) (by rw [qj]; rfl) ea ej
              · obtain ⟨p2, e2, t2⟩ := S1.slot j _ qj
                rw [ej] at e2; cases e2
                obtain ⟨o2, h2⟩ := t2.ex
                rw [S1.bb _ _ h2] at hBa; cases hBa
            obtain ⟨il, io⟩ := insR_ok (Bc := Bc) S1 (S1.bb.trans BBc) k1 ei fun j p' d' hj ej hs o' eo => by
              rw [Bcn p' (cut j p' d' (hasSl_mem hns hj) ej hs)]; exact eo
            have ownA : ∀ j : Nat, ownS (Sl.own d1 :: ins)[j]? = true → j = 0 := fun j hj => by
              cases j with
              | zero => rfl
              | succ j =>
                rw [List.getElem?_cons_succ] at hj
                cases qq : ins[j]? with
                | none => rw [qq] at hj; cases hj
                | some sl => rw [qq] at hj; rw [(io j sl qq).1] at hj; cases hj
            have SC : SOk X.K Bc Bc F1 (Sl.own d1 :: ins) ((V.ref a :: vs).map some) H1 := ⟨Sb.refl Bc, BcH, S1.fh, by simp [il], fun j sl ej => by
              cases j with
              | zero => cases ej; exact ⟨a, rfl, hFa, Bca, ta⟩
              | succ j => exact (io j sl (by simpa using ej)).2, fun x y p ne h1 h2 => by
                have := ownA x h1
                have := ownA y h2
                omega⟩
            have go : ∀ {rr : Rv} {d' : D} {oo : En}, φ (.own d1 :: ins) = some (rr, .own d' :: oo) → (rr, ρ1.set i (.own d')) = (r, ρ') → (∀ i, rr ≠ .bor i) → spD X.K n φ ((V.ref a :: vs) ++ []) H1 Q E0 := fun {rr d' oo} ep er nb => by
              cases er
              rw [List.append_nil]
              refine ⟨by rw [List.length_cons, l1]; exact hn, Bc, F1, .own d1 :: ins, r, .own d' :: oo, SC, ep, fun v F' H' x' S' k' => ?_⟩
              have xB : Ext B F1 F' := x'.weak BBc
              obtain ⟨a2, ea2, hFa2, _, ta2⟩ := S'.slot 0 _ rfl
              have : a2 = a := by cases ea2; rfl
              subst this
              have S2 : SOk X.K B0 B F' (ρ1.set i (.own d')) σ H' := ⟨S1.bb, BBc.trans S'.bh, S'.fh, by rw [List.length_set]; exact S1.len, fun j sl ej => by
                rcases getElem?_setD ej with ⟨z, rfl⟩ | ⟨z, y⟩
                · subst z; exact ⟨a2, ea, hFa2, hBa, ta2⟩
                · have qs := S1.slot j sl y
                  cases sl with
                  | un => trivial
                  | fr d => obtain ⟨w, e1, k⟩ := qs; exact ⟨w, e1, k.mono x'.1⟩
                  | own d =>
                    obtain ⟨p, e1, aa, b, t⟩ := qs
                    obtain ⟨o, ho⟩ := t.ex
                    have ne : p ≠ a2 := cut j p d (Ne.symm z) e1 (.inl y)
                    exact ⟨p, e1, x'.2 p o (by rw [Bcn p ne]; exact ho) aa, b, t.mono x'.1 fun u eu => S'.bh _ _ (by rw [Bcn p ne]; exact eu)⟩
                  | rd d => obtain ⟨p, e1, t⟩ := qs; exact ⟨p, e1, t.mono x'.1 fun _ e => e⟩
                  | scr l => exact qs, fun x y p ne h1 h2 e1 e2 => by
                have tr : ∀ {k : Nat}, ownS (ρ1.set i (.own d'))[k]? = true → ownS ρ1[k]? = true := fun {k} h => by
                  rcases ownS_set h with ⟨z, _⟩ | ⟨_, z⟩
                  · subst z; rw [q1]; rfl
                  · exact z
                exact S1.sep x y p ne (tr h1) (tr h2) e1 e2⟩
              refine q v F' H' (x1.trans xB) S2 ?_
              cases r with
              | rep d => exact k'
              | new d =>
                obtain ⟨p, e1, e2, e3, e4, e5⟩ := k'
                have pa2 : p ≠ a2 := fun z => e5 0 rfl (by rw [z]; rfl)
                have hp : H1 p = none := by rw [← Bcn p pa2]; exact e3
                refine ⟨p, e1, e2, S1.bh.free hp, e4, fun j hj ej => ?_⟩
                rcases ownS_set hj with ⟨z, _⟩ | ⟨_, z⟩
                · subst z
                  rw [ea] at ej; cases ej; exact pa2 rfl
                · exact notOwn_new S1 hp j z ej
              | bor i => exact absurd rfl (nb i)
            split at e0
            · rename_i d' oo ep
              exact go ep (Option.some.inj e0) fun i z => by cases z
            · rename_i d' oo ep
              exact go ep (Option.some.inj e0) fun i z => by cases z
            · cases e0
          · cases e0
      · cases e0
    · cases e0
  · cases e0
end
end DL
set_option Elab.async false
set_option linter.all false
set_option maxRecDepth 100000
set_option maxHeartbeats 1000000
namespace DL
open PySem PySem.Spec L2

/-! ### methods that change an owned slot -/
structure MuD (X : Cx) (T id : String) (g : D → List D → Option (D × D)) : Prop where
  ex : ∃ r, MtR X id r ∧ (∀ (F H : Hp) (p : Addr) (d : D) (vs : List V) (ds : List D) (d' rd : D) (Q : VK), Sb F H → F p = none → TopAt F H p d → Reps F vs ds → g d ds = some (d', rd) →
    (∀ v o, TopAt F (upd H p o) p d' → Rep F v rd → Q v (upd H p o)) → r (.ref p) vs H Q) ∧ ∀ (K : PySem.W.Frag) (F H : Hp) (p : Addr) (d : D) (ds : List D) (z : D × D), TopAt F H p d → g d ds = some z → tyV K T (.ref p) H
def muM (i : Nat) (g : D → List D → Option (D × D)) (τs : M (List D)) : M Rv := fun ρ0 => match ρ0[i]? with
  | some (.own (.list _)) => match τs ρ0 with
    | some (ds, ρ) => match ρ[i]? with
      | some (.own d) => match g d ds with
        | some (d', r) => some (.rep r, ρ.set i (.own d'))
        | none => none
      | _ => none
    | none => none
  | _ => none
section
variable {X : Cx} {e e2 o elt tg iter : Expr} {es : List Expr} {pos p q apos cpos : Pos} {τ τ1 τ2 : M Rv} {τs : M (List Ag)} {τd : M (List D)} {i : Nat} {y name : Str} {T id : String} {g : D → List D → Option (D × D)}
theorem tyV_list {K : PySem.W.Frag} {F H : Hp} {p : Addr} {l : List D} (t : TopAt F H p (.list l)) : tyV K "list" (.ref p) H := by
  obtain ⟨vs, h, _⟩ := t
  exact .inl ⟨rfl, vs, SqL.of h⟩
theorem mu_core {r : V → List V → Hp → VK → Prop} {t : TA} (hr : ∀ (F H : Hp) (p : Addr) (d : D) (vs : List V) (ds : List D) (d' rd : D) (Q : VK), Sb F H → F p = none → TopAt F H p d → Reps F vs ds → g d ds = some (d', rd) →
    (∀ v o, TopAt F (upd H p o) p d' → Rep F v rd → Q v (upd H p o)) → r (.ref p) vs H Q) (h : RdA X.K t τd) : RdE X.K (fun σ H Q => ∃ v, σ[i]? = some (some v) ∧ tyV X.K "list" v H ∧ t σ H fun xs H2 => r v xs H2 Q) (muM i g τd) := by
  intro B0 B F ρ σ H Q rv ρ' S e0 q
  unfold muM at e0
  split at e0
  · rename_i l0 q0
    split at e0
    · rename_i ds ρ1 e1
      obtain ⟨a, ea, _, _, t0⟩ := S.slot i _ q0
      refine ⟨_, ea, tyV_list t0, h B0 B F ρ σ H _ ds ρ1 S e1 fun vs F1 H1 x1 S1 k1 => ?_⟩
      split at e0
      · rename_i d1 q1
        split at e0
        · rename_i d' rd eg
          cases e0
          obtain ⟨a', ea', hF, hB, t1⟩ := S1.slot i _ q1
          rw [ea] at ea'; cases ea'
          exact hr F1 H1 a d1 vs ds d' rd Q S1.fh hF t1 k1 eg fun v o t2 k2 => q v F1 _ x1 (S1.write q1 ea t2) k2
        · cases e0
      · cases e0
    · cases e0
  · cases e0
theorem dx_mu (i : Nat) {pn : Pos} (pa : PlainAttrs "list") (slot : Slot "list" name id) (hty : typeOf (.builtin id) = pure (.type "method_descriptor")) (m : MuD X "list" id g) (ha : DA X (e :: es) τd) (hN : X.N[i]? = some y := by rfl)
    (hv : Vis X.env.scope y := by first | exact Or.inl rfl | exact Or.inr (Or.inl rfl) | exact Or.inr (Or.inr rfl)) (hd : (y == ("__debug__" : Str)) = false := by decide) (hcd : (y == ("__classdict__" : Str)) = false := by decide)
    (hbase : attributeBase (.Name y pn) name X.env (eval (.Name y pn) X.env) = eval (.Name y pn) X.env := by rfl)
    (hfew : ((backTo cpos (starEach (e :: es) X.env)).all (fun x => !x.1) && (backToKw cpos (keywordEach [] X.env)).all (fun x => x.1.isSome)
      && decide ((e :: es).length + ([] : List Keyword).length + (if ([] : List Keyword).isEmpty then 0 else 1) < 30)) = true := by rfl)
    (hline : (apos.endLine == cpos.line) = true := by rfl) (hs : starEach (e :: es) X.env = (false, eval e X.env) :: starEach es X.env := by rfl) (hplain : (backTo cpos (starEach es X.env)).any (·.1) = false := by rfl) :
    DX X (.Call (.Attribute (.Name y pn) name apos) (e :: es) [] cpos) (muM i g τd) := by
  obtain ⟨r, hm, hr, _⟩ := m.ex
  obtain ⟨t, pa', h⟩ := ha.ex
  exact ⟨_, pe_bm pa slot hty hm (pe_var hN hv hd hcd) pa' hbase hfew hline hs hplain, mu_core hr h⟩
theorem dx_mu0 (i : Nat) {pn : Pos} (pa : PlainAttrs "list") (slot : Slot "list" name id) (hty : typeOf (.builtin id) = pure (.type "method_descriptor")) (m : MuD X "list" id g) (hN : X.N[i]? = some y := by rfl)
    (hv : Vis X.env.scope y := by first | exact Or.inl rfl | exact Or.inr (Or.inl rfl) | exact Or.inr (Or.inr rfl)) (hd : (y == ("__debug__" : Str)) = false := by decide) (hcd : (y == ("__classdict__" : Str)) = false := by decide)
    (hbase : attributeBase (.Name y pn) name X.env (eval (.Name y pn) X.env) = eval (.Name y pn) X.env := by rfl) (hline : (apos.endLine == cpos.line) = true := by rfl) :
    DX X (.Call (.Attribute (.Name y pn) name apos) [] [] cpos) (muM i g (fun ρ => some ([], ρ))) := by
  obtain ⟨r, hm, hr, _⟩ := m.ex
  have h : RdA X.K tNil (fun ρ => some ([], ρ)) := fun B0 B F ρ σ H Q ds ρ' S e q => by
    cases e
    exact q [] F H (Ext.refl B F) S .nil
  exact ⟨_, pe_bm0 pa slot hty hm (pe_var hN hv hd hcd) hbase hline, mu_core hr h⟩
def gAppend : D → List D → Option (D × D)
  | .list l, [d] => if l.length < 16777216 then some (.list (l ++ [d]), .none) else none
  | _, _ => none
theorem mu_append : MuD X "list" "list.append" gAppend := by
  refine ⟨_, mt_append, fun F H p d vs ds d' rd Q s hF t k e q => ?_, fun K F H p d ds z t e => ?_⟩
  · unfold gAppend at e
    split at e
    · split at e
      · rename_i l d0 hz
        cases e
        obtain ⟨ws, h, r⟩ := t
        cases k with
        | cons a b =>
          cases b
          exact ⟨p, ws, _, rfl, rfl, h, by rw [r.len, sizeLine_eq]; exact hz, q _ _ ⟨_, upd_same, r.app (.cons a .nil)⟩ .non⟩
      · cases e
    · cases e
  · unfold gAppend at e
    split at e
    · exact tyV_list t
    · cases e
def gExtend : D → List D → Option (D × D)
  | .list l, [.list m] => if l.length + m.length ≤ 16777216 then some (.list (l ++ m), .none) else none
  | _, _ => none
theorem mu_extend : MuD X "list" "list.extend" gExtend := by
  refine ⟨_, mt_extend, fun F H p d vs ds d' rd Q s hF t k e q => ?_, fun K F H p d ds z t e => ?_⟩
  · unfold gExtend at e
    split at e
    · split at e
      · rename_i l m hz
        cases e
        obtain ⟨ws, h, r⟩ := t
        cases k with
        | cons a b =>
          cases b
          cases a with
          | lst h2 r2 =>
            exact ⟨p, _, ws, _, rfl, rfl, h, s _ _ h2, by rw [r.len, r2.len, sizeLine_eq]; exact hz, q _ _ ⟨_, upd_same, r.app r2⟩ .non⟩
      · cases e
    · cases e
  · unfold gExtend at e
    split at e
    · exact tyV_list t
    · cases e
def gPop : D → List D → Option (D × D)
  | .list l, [] => match l[l.length - 1]? with
    | some d => some (.list l.dropLast, d)
    | none => none
  | _, _ => none
theorem Reps.dropLast {F : Hp} {vs : List V} {ds : List D} (r : Reps F vs ds) : Reps F vs.dropLast ds.dropLast := by
  rw [List.dropLast_eq_take, List.dropLast_eq_take, r.len]
  exact r.take _
theorem mu_pop : MuD X "list" "list.pop" gPop := by
  refine ⟨_, mt_pop, fun F H p d vs ds d' rd Q s hF t k e q => ?_, fun K F H p d ds z t e => ?_⟩
  · unfold gPop at e
    split at e
    · split at e
      · rename_i l d0 hz
        cases e
        obtain ⟨ws, h, r⟩ := t
        cases k
        rw [← r.len] at hz
        obtain ⟨v, ev, kv⟩ := r.get hz
        exact ⟨p, ws, v, rfl, rfl, h, ev, q _ _ ⟨_, upd_same, r.dropLast⟩ kv⟩
      · cases e
    · cases e
  · unfold gPop at e
    split at e
    · exact tyV_list t
    · cases e
def gPopAt : D → List D → Option (D × D)
  | .list l, [.int i] => if okR i = true then match seqIndex? i l.length with
      | some k => match l[k]? with
        | some d => some (.list (l.eraseIdx k), d)
        | none => none
      | none => none
    else none
  | _, _ => none
theorem Reps.eraseIdx {F : Hp} : ∀ {vs : List V} {ds : List D} (k : Nat), Reps F vs ds → Reps F (vs.eraseIdx k) (ds.eraseIdx k)
  | _, _, _, .nil => .nil
  | _, _, 0, .cons _ t => t
  | _, _, k + 1, .cons q t => .cons q (Reps.eraseIdx k t)
theorem mu_popAt : MuD X "list" "list.pop" gPopAt := by
  refine ⟨_, mt_popAt, fun F H p d vs ds d' rd Q s hF t k e q => ?_, fun K F H p d ds z t e => ?_⟩
  · unfold gPopAt at e
    split at e
    · rename_i l i
      split at e
      · rename_i hz
        have hz := okR_ok hz
        split at e
        · rename_i kk ek
          split at e
          · rename_i d0 ed
            cases e
            obtain ⟨ws, h, r⟩ := t
            cases k with
            | cons a b =>
              cases a; cases b
              obtain ⟨v, ev, kv⟩ := r.get ed
              rw [← r.len] at ek
              exact ⟨p, ws, i, kk, v, rfl, rfl, h, by omega, by omega, ek, ev, q _ _ ⟨_, upd_same, r.eraseIdx kk⟩ kv⟩
          · cases e
        · cases e
      · cases e
    · cases e
  · unfold gPopAt at e
    split at e
    · exact tyV_list t
    · cases e
def gReverse : D → List D → Option (D × D)
  | .list l, [] => some (.list l.reverse, .none)
  | _, _ => none
theorem mu_reverse : MuD X "list" "list.reverse" gReverse := by
  refine ⟨_, mt_reverse, fun F H p d vs ds d' rd Q s hF t k e q => ?_, fun K F H p d ds z t e => ?_⟩
  · unfold gReverse at e
    split at e
    · cases e
      obtain ⟨ws, h, r⟩ := t
      cases k
      exact ⟨p, ws, rfl, rfl, h, q _ _ ⟨_, upd_same, r.rev⟩ .non⟩
    · cases e
  · unfold gReverse at e
    split at e
    · exact tyV_list t
    · cases e

/-! ### xs[i] = e -/
def subM (i : Nat) (τv τi : M Rv) : M Ct := bnd (bnd τv keep) fun d => fun ρ0 => match ρ0[i]? with
  | some (.own (.list _)) => match τi ρ0 with
    | some (r, ρ) => match see ρ r with
      | some (.int k) => match ρ[i]? with
        | some (.own (.list l)) => match ixN l.length k with
          | some j => some (.nx, ρ.set i (.own (.list (l.set j d))))
          | none => none
        | _ => none
      | _ => none
    | none => none
  | _ => none
theorem ds_sub (i : Nat) {pn tpos : Pos} (hv' : DX X e τ1) (hi : DX X e2 τ2) (hN : X.N[i]? = some y := by rfl)
    (hv : Vis X.env.scope y := by first | exact Or.inl rfl | exact Or.inr (Or.inl rfl) | exact Or.inr (Or.inr rfl)) (hd : (y == ("__debug__" : Str)) = false := by decide) (hcd : (y == ("__classdict__" : Str)) = false := by decide)
    (ha : ∀ v, assign (.Subscript (.Name y pn) e2 tpos) X.env v = (do
      let ov ← holding [v] (eval (.Name y pn) X.env)
      let iv ← holding [v, ov] (eval e2 X.env)
      standAt tpos
      holding [v, ov, iv] (setItem ov iv v)
      release [v, ov, iv] []) := by intro _; rfl)
    (hs : swapsWithSole [.Subscript (.Name y pn) e2 tpos] e pos.line X.env = pure false := by rfl) (hw : swappedStores [.Subscript (.Name y pn) e2 tpos] e X.env = pure none := by rfl)
    (h1 : (assignEach [.Subscript (.Name y pn) e2 tpos] X.env).map (·.2) = [assign (.Subscript (.Name y pn) e2 tpos) X.env] := by rfl) :
    DS X (.Assign [.Subscript (.Name y pn) e2 tpos] e pos) [] (subM i τ1 τ2) := by
  obtain ⟨tv, pv', hv'⟩ := hv'.ex
  obtain ⟨ti, pi', hi⟩ := hi.ex
  refine ⟨_, ps_asg pv' (pg_sub (pe_var hN hv hd hcd) pi' set_list ha) hs hw h1, fun B0 B F ρ σ H E c ρ' S e q => ?_⟩
  obtain ⟨d, ρ1, e1, e⟩ := bnd_some e
  refine rd_keep hv' S e1 fun v F1 H1 x1 S1 k1 => ?_
  split at e
  · rename_i l0 q0
    split at e
    · rename_i r ρ2 e2
      obtain ⟨a, ea, _⟩ := S1.slot i _ q0
      refine ⟨_, ea, hi B0 B F1 ρ1 σ H1 _ r ρ2 S1 e2 fun u F2 H2 x2 S2 k2 => ?_⟩
      split at e
      · rename_i k ek
        split at e
        · rename_i l q2
          split at e
          · rename_i j ej
            cases e
            obtain ⟨a', ea', hF, hB, vs, h, rr⟩ := S2.slot i _ q2
            rw [ea] at ea'; cases ea'
            cases (S2.seen k2 ek).int
            refine ⟨a, vs, k, j, rfl, rfl, h, by rw [rr.len]; exact ej, ?_⟩
            exact q F2 σ _ (x1.trans x2) (S2.write q2 ea ⟨_, upd_same, rr.set (k1.mono x2.1) j⟩) fun _ _ => rfl
          · cases e
        · cases e
      · cases e
    · cases e
  · cases e

/-! ### a, b = e1, e2 -/
def setAll (is : List Nat) (ds : List D) : M Ct := fun ρ => match is, ds with
  | [], [] => some (.nx, ρ)
  | i :: r, d :: s => match ρ[i]? with
    | some _ => setAll r s (ρ.set i (.fr d))
    | none => none
  | _, _ => none
theorem SOk.storeFr {K : PySem.W.Frag} {B0 B F : Hp} {ρ : En} {σ : List (Option V)} {H : Hp} {v : V} {d : D} {i : Nat} {sl : Sl} (S : SOk K B0 B F ρ σ H) (e : ρ[i]? = some sl) (r : Rep F v d) : SOk K B0 B F (ρ.set i (.fr d)) (σ.set i (some v)) H :=
  S.store (by rw [← S.len]; exact (List.getElem?_eq_some_iff.mp e).1) ⟨v, rfl, r⟩ fun z => by cases z
theorem ds_par (i j : Nat) {x y : Str} {a b : Expr} {px py pt : Pos} {kt k2 pt2} (C : XOk X) (h : DA X [a, b] τd) (hw : swappedStores [.Tuple [.Name x px, .Name y py] kt pt] (.Tuple [a, b] k2 pt2) X.env = pure (some [x, y]) := by rfl)
    (hi : X.N[i]? = some x := by rfl) (hj : X.N[j]? = some y := by rfl) (hij : i ≠ j := by decide) (hx : X.env.scope.names.lookup x = some .local := by rfl) (hy : X.env.scope.names.lookup y = some .local := by rfl)
    (hs : swapsWithSole [.Tuple [.Name x px, .Name y py] kt pt] (.Tuple [a, b] k2 pt2) pos.line X.env = pure false := by rfl) :
    DS X (.Assign [.Tuple [.Name x px, .Name y py] kt pt] (.Tuple [a, b] k2 pt2) pos) [i, j] (bnd τd (setAll [i, j])) := by
  obtain ⟨t, pa, h⟩ := h.ex
  refine ⟨_, ps_par C.calm C.nd hi hj hij hx hy pa hw hs, fun B0 B F ρ σ H E c ρ' S e q => ?_⟩
  obtain ⟨ds, ρ1, e1, e⟩ := bnd_some e
  refine h B0 B F ρ σ H _ ds ρ1 S e1 fun vs F1 H1 x1 S1 k1 => ?_
  cases k1 with
  | nil => simp [setAll] at e
  | cons a1 r1 =>
  cases r1 with
  | nil =>
    simp only [setAll] at e
    split at e <;> cases e
  | cons a2 r2 =>
  cases r2 with
  | cons a3 r3 =>
    simp only [setAll] at e
    split at e
    · split at e <;> cases e
    · cases e
  | nil =>
    simp only [setAll] at e
    split at e
    · rename_i s1 q1
      split at e
      · rename_i s2 q2
        cases e
        refine ⟨_, _, rfl, q F1 _ H1 x1 ((S1.storeFr q1 a1).storeFr q2 a2) fun k hk => ?_⟩
        rw [List.getElem?_set_ne fun z => hk (by simp [z]), List.getElem?_set_ne fun z => hk (by simp [z])]
      · cases e
    · cases e
end
end DL
set_option Elab.async false
set_option linter.all false
set_option maxRecDepth 100000
set_option maxHeartbeats 1000000
namespace DL
open PySem PySem.Spec L2

/-! ### readings that hang on the function alone -/
def canE (K : PySem.W.Frag) (τ : M Rv) : TE := fun σ H Q => ∃ B0 B F ρ r ρ', SOk K B0 B F ρ σ H ∧ τ ρ = some (r, ρ') ∧ ∀ v F' H', Ext B F F' → SOk K B0 B F' ρ' σ H' → RvOk K B0 B F' ρ' σ H' v r → Q v H'
def canT (K : PySem.W.Frag) (τ : M Bool) : TT := fun σ H Q => ∃ B0 B F ρ r ρ', SOk K B0 B F ρ σ H ∧ τ ρ = some (r, ρ') ∧ ∀ F' H', Ext B F F' → SOk K B0 B F' ρ' σ H' → Q r H'
def canG (K : PySem.W.Frag) (A : List Nat) (τ : D → M Unit) : TG := fun v σ H Q => ∃ B0 B F ρ d u ρ', SOk K B0 B F ρ σ H ∧ Rep F v d ∧ τ d ρ = some (u, ρ') ∧ ∀ σ', SOk K B0 B F ρ' σ' H → σ'.length = σ.length → (∀ i : Nat, i ∉ A → σ'[i]? = σ[i]?) → Q σ' H
section
variable {X : Cx} {e e2 o elt tg iter : Expr} {es : List Expr} {pos p q apos cpos : Pos} {τ τ1 τ2 : M Rv} {K : PySem.W.Frag}
theorem DX.can (h : DX X e τ) : PE X e (canE X.K τ) := by
  obtain ⟨t, pe, h⟩ := h.ex
  refine ⟨fun pins s σ H Q I w => pe.run pins s σ H Q I ?_⟩
  obtain ⟨B0, B, F, ρ, r, ρ', S, e, q⟩ := w
  exact h B0 B F ρ σ H Q r ρ' S e q
theorem canE_rd : RdE K (canE K τ) τ := fun B0 B F ρ σ H Q r ρ' S e q => ⟨B0, B, F, ρ, r, ρ', S, e, q⟩
theorem DT.can {b : M Bool} (h : DT X e b) : PT X e (canT X.K b) := by
  obtain ⟨t, pe, h⟩ := h.ex
  refine ⟨fun pins s σ H Q I w => pe.run pins s σ H Q I ?_⟩
  obtain ⟨B0, B, F, ρ, r, ρ', S, e, q⟩ := w
  exact h B0 B F ρ σ H Q r ρ' S e q
theorem canT_rd {b : M Bool} : RdT K (canT K b) b := fun B0 B F ρ σ H Q r ρ' S e q => ⟨B0, B, F, ρ, r, ρ', S, e, q⟩
theorem DG.can {A : List Nat} {g : D → M Unit} (h : DG X tg A g) : PG X tg (canG X.K A g) := by
  obtain ⟨t, pe, h⟩ := h.ex
  refine ⟨fun pins s σ H v u Q I r w => pe.run pins s σ H v u Q I r ?_⟩
  obtain ⟨B0, B, F, ρ, d, u', ρ', S, k, e, q⟩ := w
  exact h B0 B F ρ σ H Q v d u' ρ' S k e q
theorem canG_rd {A : List Nat} {g : D → M Unit} : RdG (canG K A g) K A g := fun B0 B F ρ σ H Q v d u ρ' S k e q => ⟨B0, B, F, ρ, d, u, ρ', S, k, e, q⟩

/-! ### list comprehensions -/
def wipeE (ρ : En) : List Nat → En
  | [] => ρ
  | v :: vs => (wipeE ρ vs).set v .un
def mend (vs : List Nat) (ρ0 : En) (ρ : En) : En := match vs with
  | [] => ρ
  | v :: r => match ρ0[v]? with
    | some (.fr d) => (mend r ρ0 ρ).set v (.fr d)
    | _ => mend r ρ0 ρ
def lcL (vs : List Nat) (g : D → M Unit) (t : M Bool) (e : M Rv) : List D → M (List D)
  | [] => pur []
  | d :: r => bnd (g d) fun _ => bnd t fun b => if b = true then bnd (bnd e keep) fun y => fun ρ => (match lcL vs g t e r (wipeE ρ vs) with
      | some (ys, ρ') => some (y :: ys, ρ')
      | none => none)
    else fun ρ => lcL vs g t e r (wipeE ρ vs)
def lcM (vs : List Nat) (τi : M (List D)) (g : D → M Unit) (t : M Bool) (e : M Rv) : M Rv := bnd τi fun l => fun ρ => if l.length ≤ 16777216 then (match lcL vs g t e l (wipeE ρ vs) with
    | some (ds, ρ') => some (.new (.list ds), mend vs ρ ρ')
    | none => none) else none
theorem wipeE_len (ρ : En) : ∀ vs, (wipeE ρ vs).length = ρ.length
  | [] => rfl
  | v :: vs => by rw [wipeE, List.length_set, wipeE_len]
theorem wipeE_at {ρ : En} {i : Nat} {sl : Sl} : ∀ {vs : List Nat}, (wipeE ρ vs)[i]? = some sl → sl = .un ∨ (i ∉ vs ∧ ρ[i]? = some sl)
  | [], h => .inr ⟨by simp, h⟩
  | v :: vs, h => by
    rcases getElem?_setD h with ⟨_, z⟩ | ⟨z, h⟩
    · exact .inl z
    · rcases wipeE_at h with y | ⟨y, w⟩
      · exact .inl y
      · exact .inr ⟨by simp [z, y], w⟩
theorem wipe_at {σ : List (Option V)} {i : Nat} : ∀ {vs : List Nat}, i ∉ vs → (wipe σ vs)[i]? = σ[i]?
  | [], _ => rfl
  | v :: vs, h => by
    unfold wipe
    rw [List.getElem?_set_ne fun z => h (by simp [z]), wipe_at fun z => h (List.mem_cons_of_mem _ z)]
theorem wipe_len' (σ : List (Option V)) : ∀ vs : List Nat, (wipe σ vs).length = σ.length
  | [] => rfl
  | v :: vs => by unfold wipe; rw [List.length_set, wipe_len' σ vs]
theorem SOk.wipe {B0 B F : Hp} {ρ : En} {σ : List (Option V)} {H : Hp} (S : SOk K B0 B F ρ σ H) (vs : List Nat) : SOk K B0 B F (wipeE ρ vs) (L2.wipe σ vs) H := by
  have own1 : ∀ i : Nat, ownS (wipeE ρ vs)[i]? = true → ownS ρ[i]? = true ∧ (L2.wipe σ vs)[i]? = σ[i]? := fun i h => by
    cases q : (wipeE ρ vs)[i]? with
    | none => rw [q] at h; cases h
    | some sl =>
      rcases wipeE_at q with rfl | ⟨a, b⟩
      · rw [q] at h; cases h
      · rw [q] at h; exact ⟨by rw [b]; exact h, wipe_at a⟩
  refine ⟨S.bb, S.bh, S.fh, by rw [wipeE_len, wipe_len', S.len], fun i sl e => ?_, fun i j p ne h1 h2 e1 e2 => ?_⟩
  · rcases wipeE_at e with rfl | ⟨a, b⟩
    · trivial
    · rw [wipe_at a]; exact S.slot i sl b
  · obtain ⟨a1, b1⟩ := own1 i h1
    obtain ⟨a2, b2⟩ := own1 j h2
    rw [b1] at e1
    rw [b2] at e2
    exact S.sep i j p ne a1 a2 e1 e2
/-- behind a block: its own names as they were, the others as they have become -/
theorem SOk.unwipe {B0 B F F0 H0 : Hp} {ρ ρ0 : En} {σ : List (Option V)} {H : Hp} (s : Sb F0 F) (S0 : SOk K B0 B F0 ρ0 σ H0) : ∀ {vs : List Nat}, SOk K B0 B F ρ (L2.wipe σ vs) H → (∀ (i : Nat) (sl : Sl), i ∈ vs → ρ[i]? = some sl → sl = .un) → SOk K B0 B F (mend vs ρ0 ρ) σ H := by
  intro vs S hu
  have look : ∀ (ws : List Nat), (∀ i ∈ ws, i ∈ vs) → ∀ (i : Nat) (sl : Sl), (mend ws ρ0 ρ)[i]? = some sl → (ρ[i]? = some sl ∧ (sl = .un ∨ i ∉ vs)) ∨ ∃ d, sl = .fr d ∧ ρ0[i]? = some (.fr d) := by
    intro ws
    induction ws with
    | nil =>
      intro _ i sl e
      refine .inl ⟨e, ?_⟩
      by_cases h : i ∈ vs
      · exact .inl (hu i sl h e)
      · exact .inr h
    | cons v r ih =>
      intro hw i sl e
      have ih := ih (fun i hi => hw i (List.mem_cons_of_mem _ hi))
      simp only [mend] at e
      split at e
      · rename_i d ed
        rcases getElem?_setD e with ⟨a, b⟩ | ⟨a, b⟩
        · exact .inr ⟨d, b, by rw [a]; exact ed⟩
        · exact ih i sl b
      · exact ih i sl e
  have ml : ∀ ws : List Nat, (mend ws ρ0 ρ).length = ρ.length := by
    intro ws
    induction ws with
    | nil => rfl
    | cons v r ih =>
      simp only [mend]
      split
      · rw [List.length_set, ih]
      · exact ih
  have look := look vs fun i hi => hi
  have own1 : ∀ i : Nat, ownS (mend vs ρ0 ρ)[i]? = true → ownS ρ[i]? = true ∧ (L2.wipe σ vs)[i]? = σ[i]? := fun i h => by
    cases q : (mend vs ρ0 ρ)[i]? with
    | none => rw [q] at h; cases h
    | some sl =>
      rcases look i sl q with ⟨a, b⟩ | ⟨d, rfl, _⟩
      · rcases b with rfl | b
        · rw [q] at h; cases h
        · rw [q] at h; exact ⟨by rw [a]; exact h, wipe_at b⟩
      · rw [q] at h; cases h
  refine ⟨S.bb, S.bh, S.fh, by rw [ml, S.len, wipe_len'], fun i sl e => ?_, fun i j p ne h1 h2 e1 e2 => ?_⟩
  · rcases look i sl e with ⟨a, b⟩ | ⟨d, rfl, a⟩
    · rcases b with rfl | b
      · trivial
      · rw [← wipe_at b]; exact S.slot i sl a
    · obtain ⟨v, e1, k⟩ := S0.slot i _ a
      exact ⟨v, e1, k.mono s⟩
  · obtain ⟨a1, b1⟩ := own1 i h1
    obtain ⟨a2, b2⟩ := own1 j h2
    rw [← b1] at e1
    rw [← b2] at e2
    exact S.sep i j p ne a1 a2 e1 e2
theorem wipe_vs (ρ : En) : ∀ (vs : List Nat) (i : Nat) (sl : Sl), i ∈ vs → (wipeE ρ vs)[i]? = some sl → sl = .un := fun vs i sl hi e => by
  rcases wipeE_at e with z | ⟨z, _⟩
  · exact z
  · exact absurd hi z
theorem wipe_eq {σ1 σ2 : List (Option V)} : ∀ {vs : List Nat}, σ2.length = σ1.length → (∀ i : Nat, i ∉ vs → σ2[i]? = σ1[i]?) → L2.wipe σ2 vs = L2.wipe σ1 vs := by
  intro vs hl h
  have both : ∀ (τ : List (Option V)) (j : Nat) (ws : List Nat), j ∈ ws → (L2.wipe τ ws)[j]? = if j < τ.length then some none else none := by
    intro τ j ws
    induction ws with
    | nil => intro hj; cases hj
    | cons v ws ih =>
      intro hj
      unfold L2.wipe
      by_cases z : j = v
      · subst z
        rw [List.getElem?_set]
        simp [wipe_len']
      · rw [List.getElem?_set_ne (Ne.symm z)]
        exact ih ((List.mem_cons.mp hj).resolve_left z)
  apply List.ext_getElem?
  intro j
  by_cases hj : j ∈ vs
  · rw [both _ _ _ hj, both _ _ _ hj, hl]
  · rw [wipe_at hj, wipe_at hj, h j hj]
theorem wipe_wipe (σ : List (Option V)) (vs : List Nat) : L2.wipe (L2.wipe σ vs) vs = L2.wipe σ vs :=
  wipe_eq (wipe_len' σ vs) fun i hi => wipe_at hi
theorem mend_own {ρ ρ0 : En} {σ : List (Option V)} {vs : List Nat} {D' : Addr} (hu : ∀ (j : Nat) (sl : Sl), j ∈ vs → ρ[j]? = some sl → sl = .un) (hn : notOwn ρ (L2.wipe σ vs) D') {j : Nat} (hj : ownS (mend vs ρ0 ρ)[j]? = true) (ej : σ[j]? = some (some (.ref D'))) : False := by
  have look : ∀ ws : List Nat, ∀ (i : Nat) (sl : Sl), (mend ws ρ0 ρ)[i]? = some sl → ρ[i]? = some sl ∨ ∃ d, sl = .fr d := by
    intro ws
    induction ws with
    | nil => intro i sl e; exact .inl e
    | cons v r ih =>
      intro i sl e
      simp only [mend] at e
      split at e
      · rename_i d ed
        rcases getElem?_setD e with ⟨_, b⟩ | ⟨_, b⟩
        · exact .inr ⟨d, b⟩
        · exact ih i sl b
      · exact ih i sl e
  cases q : (mend vs ρ0 ρ)[j]? with
  | none => rw [q] at hj; cases hj
  | some sl =>
    rw [q] at hj
    rcases look vs j sl q with a | ⟨d, rfl⟩
    · by_cases hv : j ∈ vs
      · rw [hu j sl hv a] at hj; cases hj
      · exact hn j (by rw [a]; exact hj) (by rw [wipe_at hv]; exact ej)
    · cases hj
def RdTs (K : PySem.W.Frag) (t : TT) (τ : M Bool) : Prop := RdT K t τ
/-- the reading of a comprehension -/
theorem lc_rd {wi : TI} {τi : M (List D)} {A : List Nat} {g : D → M Unit} {tt : TT} {b : M Bool} {τ : M Rv} {vs : List Nat} (hA : ∀ i ∈ A, i ∈ vs) (hi : RdI K wi τi) (ht : RdT K tt b) : RdE K (tLc wi (canG K A g) tt (canE K τ) vs) (lcM vs τi g b τ) := by
  intro B0 B F ρ σ H Q rv ρ' S e q
  obtain ⟨l, ρ0, e0, e⟩ := bnd_some e
  refine hi B0 B F ρ σ H _ l ρ0 S e0 fun J F0 H0 x0 S0 W D' hD => ?_
  split at e
  · rename_i hlen
    split at e
    · rename_i ds ρf ef
      cases e
      have hDB : B D' = none := S0.bh.free hD
      have hn0 : notOwn (wipeE ρ0 vs) (L2.wipe σ vs) D' := notOwn_new (S0.wipe vs) hD
      refine ⟨fun i m H1 => m = l.length - i ∧ i ≤ l.length ∧ ∃ F1 ρ1 acc ds0 ds1, Ext B F0 F1 ∧ SOk K B0 B F1 ρ1 (L2.wipe σ vs) H1 ∧ H1 D' = some (.lst acc) ∧ F1 D' = none ∧ notOwn ρ1 (L2.wipe σ vs) D' ∧ Reps F1 acc ds0 ∧ acc.length ≤ i ∧ (∀ (j : Nat) (sl : Sl), j ∈ vs → ρ1[j]? = some sl → sl = .un) ∧ lcL vs g b τ (l.drop i) ρ1 = some (ds1, ρf) ∧ ds = ds0 ++ ds1,
        ⟨_, rfl, Nat.zero_le _, F0, wipeE ρ0 vs, [], [], ds, Ext.refl B F0, (S0.wipe vs).alloc hD, upd_same, S0.fh.free hD, hn0, .nil, Nat.le_refl _, wipe_vs ρ0 vs, ef, rfl⟩, ?_⟩
      rintro i m H1 ⟨rfl, hi, F1, ρ1, acc, ds0, ds1, x1, S1, h1, hF1, hn1, r1, ha, hu, e1, rfl⟩
      have sF : Sb F0 H1 := x1.1.trans S1.fh
      by_cases hlt : i < l.length
      · refine .inr ⟨W.go i H1 sF hlt, fun H' => ∃ F3 ρ3 acc ds0' ds1', Ext B F0 F3 ∧ SOk K B0 B F3 ρ3 (L2.wipe σ vs) H' ∧ H' D' = some (.lst acc) ∧ F3 D' = none ∧ notOwn ρ3 (L2.wipe σ vs) D' ∧ Reps F3 acc ds0' ∧ acc.length ≤ i + 1 ∧ (∀ (j : Nat) (sl : Sl), j ∈ vs → ρ3[j]? = some sl → sl = .un) ∧ lcL vs g b τ (l.drop (i + 1)) ρ3 = some (ds1', ρf) ∧ ds0 ++ ds1 = ds0' ++ ds1',
          fun H' w => ⟨_, ?_, rfl, hlt, w⟩, fun x H' y => ?_⟩
        · omega
        · have hd : l[i]? = some l[i] := List.getElem?_eq_getElem hlt
          -- the new list is protected through the turn
          have P1 := S1.prot h1 hDB hn1
          have sB : Sb B (upd B D' (.lst acc)) := (Sb.refl B).updS hDB
          obtain ⟨F2, x2, S2, k2⟩ := W.yld i H1 x H' _ sF hd y B0 _ F1 ρ1 _ x1.1 P1
          rw [List.drop_eq_getElem_cons hlt] at e1
          simp only [lcL] at e1
          obtain ⟨u, ρ2, e2, e1⟩ := bnd_some e1
          obtain ⟨bb, ρ3, e3, e1⟩ := bnd_some e1
          refine ⟨B0, _, F2, ρ1, _, u, ρ2, S2, k2, e2, fun σ2 S2' lσ kσ => ?_⟩
          have wσ : L2.wipe σ2 vs = L2.wipe σ vs := by
            rw [wipe_eq (σ2 := σ2) (σ1 := L2.wipe σ vs) lσ (fun j hj => kσ j fun z => hj (hA j z)), wipe_wipe]
          refine ⟨wσ, ht B0 _ F2 ρ2 σ2 H' _ bb ρ3 S2' e3 fun F3 H3 x3 S3 => ?_⟩
          have stay : ∀ {F4 : Hp} {H4 : Hp} {ρ4 : En}, Ext (upd B D' (.lst acc)) F1 F4 → SOk K B0 (upd B D' (.lst acc)) F4 ρ4 σ2 H4 → F4 D' = none ∧ H4 D' = some (.lst acc) ∧ SOk K B0 B F4 (wipeE ρ4 vs) (L2.wipe σ vs) H4 ∧ notOwn (wipeE ρ4 vs) (L2.wipe σ vs) D' := fun {F4 H4 ρ4} x4 S4 => by
            have S5 := S4.wipe vs
            rw [wσ] at S5
            refine ⟨x4.2 D' _ upd_same hF1, S4.bh _ _ upd_same, S5.weak S0.bb sB, fun j hj ej => ?_⟩
            obtain ⟨_, z, _⟩ := S5.isSome hj ej
            rw [upd_same] at z; cases z
          have hacc : acc.length < sizeLine := by rw [sizeLine_eq]; omega
          cases bb with
          | false =>
            rw [if_neg Bool.false_ne_true] at e1 ⊢
            obtain ⟨a1, a2, a3, a4⟩ := stay (x2.trans x3) S3
            exact ⟨F3, wipeE ρ3 vs, acc, ds0, ds1, x1.trans ((x2.trans x3).weak sB), a3, a2, a1, a4, r1.mono (x2.trans x3).1, by omega, wipe_vs ρ3 vs, e1, rfl⟩
          | true =>
            rw [if_pos rfl] at e1 ⊢
            obtain ⟨yd, ρ4, e4, e1⟩ := bnd_some e1
            refine rd_keep canE_rd S3 e4 fun yv F4 H4 x4 S4 k4 => ?_
            split at e1
            · rename_i ys ρ5 e5
              cases e1
              have xx := x2.trans (x3.trans x4)
              obtain ⟨a1, a2, a3, a4⟩ := stay xx S4
              refine ⟨acc, a2, hacc, F4, wipeE ρ4 vs, acc ++ [yv], ds0 ++ [yd], ys, x1.trans (xx.weak sB), ?_, upd_same, a1, a4, (r1.mono xx.1).app (.cons k4 .nil), by rw [List.length_append]; simp; omega, wipe_vs ρ4 vs, e5, by simp⟩
              -- the list at D' grows: it is nobody's
              refine ⟨a3.bb, a3.bh.updS hDB, a3.fh.updS a1, a3.len, fun j sl ej => ?_, a3.sep⟩
              have qs := a3.slot j sl ej
              cases sl with
              | own d =>
                obtain ⟨p, e1, aa, bb, t⟩ := qs
                refine ⟨p, e1, aa, bb, t.mono (Sb.refl F4) fun u eu => ?_⟩
                rw [upd_ne fun z => a4 j (by rw [ej]; rfl) (by rw [e1, z])]
                exact eu
              | _ => exact qs
            · cases e1
      · have ei : i = l.length := by omega
        subst ei
        rw [List.drop_length] at e1
        cases e1
        refine .inl ⟨W.stop H1 sF, ?_⟩
        have S6 := SOk.unwipe x1.1 S0 S1 hu
        rw [List.append_nil] at q
        refine q _ F1 H1 (x0.trans x1) S6 ⟨D', rfl, hF1, hDB, ⟨acc, h1, r1⟩, fun j hj ej => ?_⟩
        obtain ⟨z, _, d, ed, td⟩ := S6.isSome hj ej
        exact mend_own hu hn1 hj ej
    · cases e
  · cases e
structure DTs (X : Cx) (ifs : List Expr) (τ : M Bool) : Prop where
  run : PTs X ifs (canT X.K τ)
theorem dts_nil : DTs X [] (pur true) := ⟨⟨fun pins s σ H Q I w => pts_nil.run pins s σ H Q I (by
  obtain ⟨B0, B, F, ρ, r, ρ', S, e, q⟩ := w
  cases e
  exact q F H (Ext.refl B F) S)⟩⟩
theorem dts_one {b : M Bool} (h : DT X e b) : DTs X [e] b := ⟨pts_one h.can⟩
theorem dx_lc {ifs : List Expr} {scope : Scope} {own : List (Str × Nat)} {τi : M (List D)} {A : List Nat} {g : D → M Unit} {b : M Bool} (C : XOk X) (hi : DI X tg iter τi) (ok : BlkOk X.N X.env.scope scope own)
    (hg : ∀ (s : Shared) (H : Hp) (C : Addr) (cl : List (Str × Addr)) (fp : List Addr), XOk (X.blk s H scope (compEnvC scope cl C X.env) fp) → DG (X.blk s H scope (compEnvC scope cl C X.env) fp) tg A g)
    (ht : ∀ (s : Shared) (H : Hp) (C : Addr) (cl : List (Str × Addr)) (fp : List Addr), XOk (X.blk s H scope (compEnvC scope cl C X.env) fp) → DTs (X.blk s H scope (compEnvC scope cl C X.env) fp) ifs b)
    (he : ∀ (s : Shared) (H : Hp) (C : Addr) (cl : List (Str × Addr)) (fp : List Addr), XOk (X.blk s H scope (compEnvC scope cl C X.env) fp) → DX (X.blk s H scope (compEnvC scope cl C X.env) fp) elt τ) (hA : (A.all fun i => (own.map (·.2)).contains i) = true := by rfl)
    (hs : ∀ x, foldedSetIterable iter X.env x = pure x := by intro _; rfl) : DX X (.ListComp elt [⟨tg, iter, ifs, 0⟩] scope pos) (lcM (own.map (·.2)) τi g b τ) := by
  obtain ⟨wi, pi, hi⟩ := hi.ex
  have cb : ∀ (s : Shared) (H : Hp) (C : Addr) (cl : List (Str × Addr)) (fp : List Addr), XOk (X.blk s H scope (compEnvC scope cl C X.env) fp) := fun s H Ca cl fp => ⟨C.nd, C.calm, PassesOwn.never, C.un⟩
  exact ⟨_, pe_lc (te := canE X.K τ) (tt := canT X.K b) (g := canG X.K A g) C.calm C.nd pi ok (fun s H C cl fp => (hg s H C cl fp (cb s H C cl fp)).can) (fun s H C cl fp => (ht s H C cl fp (cb s H C cl fp)).run) (fun s H C cl fp => (he s H C cl fp (cb s H C cl fp)).can) hs,
    lc_rd (fun i hi => by simpa using List.all_eq_true.mp hA i hi) hi canT_rd⟩
theorem ds_setLc (i : Nat) {y : Str} {py spos : Pos} {ifs : List Expr} {scope : Scope} {own : List (Str × Nat)} {τi : M (List D)} {A : List Nat} {g : D → M Unit} {b : M Bool} (C : XOk X) (hi : DI X tg iter τi) (ok : BlkOk X.N X.env.scope scope own)
    (hg : ∀ (s : Shared) (H : Hp) (C : Addr) (cl : List (Str × Addr)) (fp : List Addr), XOk (X.blk s H scope (compEnvC scope cl C X.env) fp) → DG (X.blk s H scope (compEnvC scope cl C X.env) fp) tg A g)
    (ht : ∀ (s : Shared) (H : Hp) (C : Addr) (cl : List (Str × Addr)) (fp : List Addr), XOk (X.blk s H scope (compEnvC scope cl C X.env) fp) → DTs (X.blk s H scope (compEnvC scope cl C X.env) fp) ifs b)
    (he : ∀ (s : Shared) (H : Hp) (C : Addr) (cl : List (Str × Addr)) (fp : List Addr), XOk (X.blk s H scope (compEnvC scope cl C X.env) fp) → DX (X.blk s H scope (compEnvC scope cl C X.env) fp) elt τ) (hA : (A.all fun i => (own.map (·.2)).contains i) = true := by rfl)
    (hy : X.N[i]? = some y := by rfl) (hyl : X.env.scope.names.lookup y = some .local := by rfl) (hk : X.env.scope.kind = .function := by rfl) (hl : (py.line == pos.line) = true := by rfl)
    (hsw : (scope.names.any fun (n, k) => n == y && (k == .local || k == .cell)) = false := by decide +kernel)
    (hs : ∀ x, foldedSetIterable iter X.env x = pure x := by intro _; rfl) : DS X (.Assign [.Name y py] (.ListComp elt [⟨tg, iter, ifs, 0⟩] scope pos) spos) [i] (bnd (lcM (own.map (·.2)) τi g b τ) (asgM i)) := by
  obtain ⟨wi, pi, hi⟩ := hi.ex
  have cb : ∀ (s : Shared) (H : Hp) (C : Addr) (cl : List (Str × Addr)) (fp : List Addr), XOk (X.blk s H scope (compEnvC scope cl C X.env) fp) := fun s H Ca cl fp => ⟨C.nd, C.calm, PassesOwn.never, C.un⟩
  refine ⟨_, ps_setLc (te := canE X.K τ) (tt := canT X.K b) (g := canG X.K A g) C.calm C.nd hy hyl (sw_true hk hyl hl hsw) pi ok (fun s H C cl fp => (hg s H C cl fp (cb s H C cl fp)).can) (fun s H C cl fp => (ht s H C cl fp (cb s H C cl fp)).run) (fun s H C cl fp => (he s H C cl fp (cb s H C cl fp)).can) hs, ?_⟩
  have h := lc_rd (fun i hi => by simpa using List.all_eq_true.mp hA i hi) hi (canT_rd (K := X.K) (b := b)) (τ := τ) (g := g) (A := A) (vs := own.map (·.2))
  intro B0 B F ρ σ H E c ρ' S e q
  obtain ⟨r, ρ1, e1, e⟩ := bnd_some e
  refine h B0 B F ρ σ H _ r ρ1 S e1 fun v F1 H1 x1 S1 k1 => ?_
  obtain ⟨rfl, F2, x2, S2⟩ := asg_ok S1 k1 e
  exact q F2 _ H1 (x1.trans x2) S2 fun j hj => List.getElem?_set_ne fun z => hj (by simp [z])
end
end DL
set_option Elab.async false
set_option linter.all false
set_option maxRecDepth 100000
set_option maxHeartbeats 1000000
namespace DL
open PySem PySem.Spec L2

section
variable {X : Cx} {e e2 o elt tg iter : Expr} {es : List Expr} {pos p q p2 apos cpos : Pos} {τ τ1 τ2 : M Rv} {K : PySem.W.Frag}
/-! ### isinstance -/
def tyN : D → String
  | .none => "NoneType"
  | .bool _ => "bool"
  | .int _ => "int"
  | .str _ => "str"
  | .list _ => "list"
  | .tuple _ => "tuple"
  | .dict _ => "dict"
theorem Rep.ty {F H : Hp} {v : V} {d : D} (s : Sb F H) (h : Rep F v d) : TyOf K H v (.type (tyN d)) := by
  cases h with
  | non => exact .non
  | bl b => exact .bl b
  | int i => exact .int i
  | str x => exact .str x
  | tup e _ => exact .tup (s _ _ e)
  | lst e _ => exact .lst (s _ _ e)
  | dic e _ => exact .dK (s _ _ e)
  | dit e _ => exact .dT (s _ _ e)
theorem Seen.ty {F H : Hp} {v : V} {d : D} (s : Sb F H) (h : Seen F H v d) : TyOf K H v (.type (tyN d)) := by
  rcases h with h | ⟨p, rfl, h⟩
  · exact h.ty s
  · cases d with
    | list l => obtain ⟨vs, a, _⟩ := h; exact .lst a
    | dict l =>
      rcases h with ⟨vs, a, _⟩ | ⟨vs, a, _⟩
      · exact .dK a
      · exact .dT a
    | _ => exact h.elim
def gIsi (T : String) (a : D) : Option Rv := match kitB (tyN a) T with
  | some b => some (.rep (.bool b))
  | none => none
theorem dx_isi {T : String} {x : Str} {px : Pos} (hm : X.mg "isinstance" = none) (hmT : X.mg x = none) (ha : DX X e τ) (hg : Gl X "isinstance" := by rfl) (hgT : Gl X x := by rfl) (hv : bootBuiltins x = some (.type T) := by decide +kernel)
    (hn : x ≠ "__name__" := by decide) (hdb : (x == ("__debug__" : Str)) = false := by decide)
    (he : starEach [e, .Name x px] X.env = (false, eval e X.env) :: starEach [.Name x px] X.env := by rfl) (he2 : starEach [.Name x px] X.env = (false, eval (.Name x px) X.env) :: starEach [] X.env := by rfl)
    (hpl : (backTo pos (starEach [.Name x px] X.env)).any (·.1) = false := by rfl) : DX X (.Call (.Name "isinstance" p) [e, .Name x px] [] pos) (oneM (gIsi T) τ) := by
  obtain ⟨t, pe, h⟩ := ha.ex
  have h2 : PE X (.Name x px) (tC (.ty T)) := pe_bltn (v := .ty T) hgT hmT hv rfl hn hdb
  refine ⟨_, pe_callB call_isi hg hm PyProof.Rows.boot_isinstance (pa_cons pe (pa_cons h2 pa_nil he2) he) (by decide) (by decide) he hpl, ?_⟩
  refine one_rd (r := fun x H Q => rIsi X.K [x, .ty T] H Q) (fun B0 B F ρ σ H x a rv Q S k e q => ?_) h
  unfold gIsi at e
  split at e <;> cases e
  rename_i b eb
  exact ⟨x, .ty T, _, _, b, rfl, .ty T, .base (k.ty S.fh), kit_ty eb, q _ F H (Ext.refl B F) S (.bl _)⟩
def gIsi2 (T T2 : String) (a : D) : Option Rv := match kitB (tyN a) T with
  | some true => some (.rep (.bool true))
  | some false => match kitB (tyN a) T2 with
    | some b => some (.rep (.bool b))
    | none => none
  | none => none
theorem dx_isi2 {T T2 : String} {x x2 : Str} {px px2 pt : Pos} {j} (hm : X.mg "isinstance" = none) (hmT : X.mg x = none) (hmT2 : X.mg x2 = none) (ha : DX X e τ) (hg : Gl X "isinstance" := by rfl) (hgT : Gl X x := by rfl) (hgT2 : Gl X x2 := by rfl) (hv : bootBuiltins x = some (.type T) := by decide +kernel) (hv2 : bootBuiltins x2 = some (.type T2) := by decide +kernel)
    (hn : x ≠ "__name__" := by decide) (hdb : (x == ("__debug__" : Str)) = false := by decide) (hn2 : x2 ≠ "__name__" := by decide) (hdb2 : (x2 == ("__debug__" : Str)) = false := by decide)
    (he : starEach [e, .Tuple [.Name x px, .Name x2 px2] j pt] X.env = (false, eval e X.env) :: starEach [.Tuple [.Name x px, .Name x2 px2] j pt] X.env := by rfl)
    (he2 : starEach [.Tuple [.Name x px, .Name x2 px2] j pt] X.env = (false, eval (.Tuple [.Name x px, .Name x2 px2] j pt) X.env) :: starEach [] X.env := by rfl)
    (he3 : starEach [.Name x px, .Name x2 px2] X.env = (false, eval (.Name x px) X.env) :: starEach [.Name x2 px2] X.env := by rfl) (he4 : starEach [.Name x2 px2] X.env = (false, eval (.Name x2 px2) X.env) :: starEach [] X.env := by rfl)
    (hpl : (backTo pos (starEach [.Tuple [.Name x px, .Name x2 px2] j pt] X.env)).any (·.1) = false := by rfl) : DX X (.Call (.Name "isinstance" p) [e, .Tuple [.Name x px, .Name x2 px2] j pt] [] pos) (oneM (gIsi2 T T2) τ) := by
  obtain ⟨t, pe, h⟩ := ha.ex
  have h1 : PE X (.Name x px) (tC (.ty T)) := pe_bltn (v := .ty T) hgT hmT hv rfl hn hdb
  have h2 : PE X (.Name x2 px2) (tC (.ty T2)) := pe_bltn (v := .ty T2) hgT2 hmT2 hv2 rfl hn2 hdb2
  refine ⟨_, pe_callB call_isiT hg hm PyProof.Rows.boot_isinstance (pa_cons pe (pa_cons (pe_tup (pa_cons h1 (pa_cons h2 pa_nil he4) he3)) pa_nil he2) he) (by decide) (by decide) he hpl, ?_⟩
  refine one_rd (r := fun x H Q => 2 ≤ sizeLine ∧ ∀ p, H p = none → rIsiT X.K [x, .ref p] (upd H p (.tup [.ty T, .ty T2])) Q) (fun B0 B F ρ σ H x a rv Q S k e q => ?_) h
  refine ⟨by rw [sizeLine_eq]; omega, fun p hp => ?_⟩
  have S2 := S.alloc (o := .tup [.ty T, .ty T2]) hp
  have k2 : TyOf X.K (upd H p (.tup [.ty T, .ty T2])) x (.type (tyN a)) := by
    rcases k with k | ⟨p', rfl, k⟩
    · exact k.ty S2.fh
    · exact Seen.ty S2.fh (.inr ⟨p', rfl, k.mono (Sb.refl F) fun o e => by rw [upd_ne (ne_of_none e hp)]; exact e⟩)
  unfold gIsi2 at e
  split at e
  · rename_i eb
    cases e
    exact ⟨x, p, _, _, [.type T, .type T2], true, rfl, upd_same, .cons (.ty T) (.cons (.ty T2) .nil), .base k2, kitAny_cons (b := true) (kit_ty eb) (fun z => by cases z) fun _ => rfl, q _ F _ (Ext.refl B F) S2 (.bl _)⟩
  · rename_i eb
    split at e <;> cases e
    rename_i b eb2
    refine ⟨x, p, _, _, [.type T, .type T2], b, rfl, upd_same, .cons (.ty T) (.cons (.ty T2) .nil), .base k2, kitAny_cons (b := false) (kit_ty eb) (fun _ => ?_) (fun z => by cases z), q _ F _ (Ext.refl B F) S2 (.bl _)⟩
    cases b with
    | true => exact kitAny_cons (b := true) (kit_ty eb2) (fun z => by cases z) fun _ => rfl
    | false => exact kitAny_cons (b := false) (kit_ty eb2) (fun _ => rfl) (fun z => by cases z)
  · cases e

/-! ### list(range(..)) -/
theorem rgV_reps {F : Hp} : ∀ (n : Nat) (i : Int), Reps F ((List.range n).map fun k => V.int (i + (k : Nat))) (rangeFrom i n)
  | 0, i => .nil
  | n + 1, i => by
    rw [List.range_succ_eq_map, List.map_cons, List.map_map, rangeFrom]
    refine .cons (by simpa using Rep.int i) ?_
    have h := rgV_reps (F := F) n (i + 1)
    have e : ((fun k : Nat => V.int (i + (k : Nat))) ∘ Nat.succ) = fun k : Nat => V.int (i + 1 + (k : Nat)) := by
      funext k
      simp only [Function.comp]
      congr 1
      omega
    rw [e]; exact h
def gRgL (d : D) : Option Rv := match d with
  | .int n => if okR n && Nat.ble n.toNat 16777216 then some (.new (.list (rangeFrom 0 n.toNat))) else none
  | _ => none
theorem dx_listRg1 {pr : Pos} (C : XOk X) (hm : X.mg "list" = none) (hm2 : X.mg "range" = none) (ha : DX X e τ) (hg : Gl X "list" := by rfl) (hg2 : Gl X "range" := by rfl)
    (na : starEach [.Call (.Name "range" pr) [e] [] p2] X.env = (false, eval (.Call (.Name "range" pr) [e] [] p2) X.env) :: starEach [] X.env := by rfl) (nb : starEach [e] X.env = (false, eval e X.env) :: starEach [] X.env := by rfl) :
    DX X (.Call (.Name "list" p) [.Call (.Name "range" pr) [e] [] p2] [] pos) (oneM gRgL τ) := by
  obtain ⟨t, pe, h⟩ := ha.ex
  refine ⟨_, pe_listRg C.calm hg hm (prg_1 hg2 hm2 pe nb) na, ?_⟩
  refine one_rd (r := fun x H1 Q => ∃ n, x = .int n ∧ RgOk 0 n ∧ ∀ q, H1 q = none → Q (.ref q) (upd H1 q (.lst (rgV 0 n)))) (fun B0 B F ρ σ H x a rv Q S k e q => ?_) h
  unfold gRgL at e
  split at e
  · split at e
    · rename_i n hz
      cases e
      simp only [Bool.and_eq_true] at hz
      have hz1 := okR_ok hz.1
      have hz2 := Nat.le_of_ble_eq_true hz.2
      refine ⟨n, k.int, ⟨by omega, by omega, by omega, by omega, by omega⟩, fun p hp => q _ F _ (Ext.refl B F) (S.alloc hp) (rv_list S hp ?_)⟩
      unfold rgV
      rw [show n - 0 = n by omega]
      exact rgV_reps n.toNat 0
    · cases e
  · cases e
def gRgL2 (a b : D) : Option Rv := match a, b with
  | .int i, .int n => if okR i && okR n && Nat.ble (n - i).toNat 16777216 then some (.new (.list (rangeFrom i (n - i).toNat))) else none
  | _, _ => none
theorem dx_listRg2 {pr : Pos} (C : XOk X) (hm : X.mg "list" = none) (hm2 : X.mg "range" = none) (ha : DX X e τ1) (hb : DX X e2 τ2) (hg : Gl X "list" := by rfl) (hg2 : Gl X "range" := by rfl)
    (na : starEach [.Call (.Name "range" pr) [e, e2] [] p2] X.env = (false, eval (.Call (.Name "range" pr) [e, e2] [] p2) X.env) :: starEach [] X.env := by rfl) (nb : starEach [e, e2] X.env = (false, eval e X.env) :: starEach [e2] X.env := by rfl)
    (nc : starEach [e2] X.env = (false, eval e2 X.env) :: starEach [] X.env := by rfl) (hp : (backTo p2 (starEach [e2] X.env)).any (·.1) = false := by rfl) :
    DX X (.Call (.Name "list" p) [.Call (.Name "range" pr) [e, e2] [] p2] [] pos) (opM gRgL2 τ1 τ2) := by
  obtain ⟨t, pe, h⟩ := ha.ex
  obtain ⟨t2, pe2, h2⟩ := hb.ex
  refine ⟨_, pe_listRg C.calm hg hm (prg_2 hg2 hm2 pe pe2 nb nc hp) na, ?_⟩
  refine op_rd (f := binaryOp .Add) (r := fun x y H1 Q => ∃ i j, x = .int i ∧ y = .int j ∧ RgOk i j ∧ ∀ q, H1 q = none → Q (.ref q) (upd H1 q (.lst (rgV i j)))) (fun B0 B F ρ σ H x y a b rv Q S k k2 e q => ?_) h h2
  unfold gRgL2 at e
  split at e
  · split at e
    · rename_i i n hz
      cases e
      simp only [Bool.and_eq_true] at hz
      have hz0 := okR_ok hz.1.1
      have hz1 := okR_ok hz.1.2
      have hz2 := Nat.le_of_ble_eq_true hz.2
      refine ⟨i, n, k.int, k2.int, ⟨by omega, by omega, by omega, by omega, by omega⟩, fun p hp => q _ F _ (Ext.refl B F) (S.alloc hp) (rv_list S hp ?_)⟩
      unfold rgV
      exact rgV_reps _ _
    · cases e
  · cases e

/-! ### methods that read -/
theorem twoT {ta tb : TE} {P : V → Hp → Prop} {R : V → V → Hp → Prop} {r1 r2 : Rv} {ρ ρ1 ρ2 : En} {B0 B F H : Hp} {σ : List (Option V)} {a0 a b : D} (ha : RdE K ta τ1) (hb : RdE K tb τ2) (S : SOk K B0 B F ρ σ H) (e1 : τ1 ρ = some (r1, ρ1)) (e2 : τ2 ρ1 = some (r2, ρ2))
    (s0 : see ρ1 r1 = some a0) (s1 : see ρ2 r1 = some a) (s2 : see ρ2 r2 = some b) (hP : ∀ x F1 H1, SOk K B0 B F1 ρ1 σ H1 → Seen F1 H1 x a0 → P x H1)
    (q : ∀ x y F' H', Ext B F F' → SOk K B0 B F' ρ2 σ H' → Seen F' H' x a → Seen F' H' y b → R x y H') : ta σ H fun x H1 => P x H1 ∧ tb σ H1 fun y H2 => R x y H2 := by
  refine ha B0 B F ρ σ H _ r1 ρ1 S e1 fun v1 F1 H1 x1 S1 k1 => ⟨hP v1 F1 H1 S1 (S1.seen k1 s0), ?_⟩
  cases r1 with
  | rep d =>
    refine hb B0 B F1 ρ1 σ H1 _ r2 ρ2 S1 e2 fun v2 F2 H2 x2 S2 k2 => ?_
    exact q v1 v2 F2 H2 (x1.trans x2) S2 (S2.seen (show RvOk K B0 B F2 ρ2 σ H2 v1 (.rep d) from Rep.mono x2.1 k1) s1) (S2.seen k2 s2)
  | bor i =>
    refine hb B0 B F1 ρ1 σ H1 _ r2 ρ2 S1 e2 fun v2 F2 H2 x2 S2 k2 => ?_
    exact q v1 v2 F2 H2 (x1.trans x2) S2 (S2.seen (show RvOk K B0 B F2 ρ2 σ H2 v1 (.bor i) from k1) s1) (S2.seen k2 s2)
  | new d =>
    obtain ⟨p, rfl, hF, hB, t, hn⟩ := k1
    obtain ⟨o, ho⟩ := t.ex
    have sB : Sb B (upd B p o) := (Sb.refl B).updS hB
    refine hb B0 (upd B p o) F1 ρ1 σ H1 _ r2 ρ2 (S1.prot ho hB hn) e2 fun v2 F2 H2 x2 S2 k2 => ?_
    have S2' : SOk K B0 B F2 ρ2 σ H2 := S2.weak S.bb sB
    have ho2 : H2 p = some o := S2.bh p o upd_same
    have k2' : RvOk K B0 B F2 ρ2 σ H2 v2 r2 := by
      cases r2 with
      | rep d => exact k2
      | bor i => exact k2
      | new d => obtain ⟨p', e, f, b, t', n⟩ := k2; exact ⟨p', e, f, sB.free b, t', n⟩
    cases s1
    exact q _ v2 F2 H2 (x1.trans (x2.weak sB)) S2' (.inr ⟨p, rfl, t.mono x2.1 fun u e => by rw [ho] at e; cases e; exact ho2⟩) (S2'.seen k2' s2)
def isTy (T : String) : D → Bool
  | .list _ => T == "list"
  | .str _ => T == "str"
  | _ => false
theorem isTy_ok {F H : Hp} {x : V} {a : D} {T : String} (s : Sb F H) (h : Seen F H x a) (e : isTy T a = true) : tyV K T x H := by
  cases a with
  | list l =>
    obtain ⟨p, vs, rfl, h1, _⟩ := h.lst s
    simp only [isTy, beq_iff_eq] at e
    subst e
    exact .inl ⟨rfl, vs, SqL.of h1⟩
  | str z =>
    cases h.str
    simp only [isTy, beq_iff_eq] at e
    exact e
  | _ => cases e
def rmM (T : String) (g : D → D → Option Rv) (τ1 τ2 : M Rv) : M Rv := bnd τ1 fun r1 => bnd (seeM r1) fun a0 => if isTy T a0 = true then bnd τ2 fun r2 => bnd (seeM r1) fun a => bnd (seeM r2) fun b => lft (g a b) else fun _ => none
structure RmD (X : Cx) (id : String) (g : D → D → Option Rv) : Prop where
  ex : ∃ r, MtR X id r ∧ ∀ (B0 B F : Hp) (ρ : En) (σ : List (Option V)) (H : Hp) (x y : V) (a b : D) (rv : Rv) (Q : VK), SOk X.K B0 B F ρ σ H → Seen F H x a → Seen F H y b → g a b = some rv →
    (∀ v F' H', Ext B F F' → SOk X.K B0 B F' ρ σ H' → RvOk X.K B0 B F' ρ σ H' v rv → Q v H') → r x [y] H Q
theorem dx_rm {T id : String} {name : Str} {g : D → D → Option Rv} (pa : PlainAttrs T) (slot : Slot T name id) (hty : typeOf (.builtin id) = pure (.type "method_descriptor")) (m : RmD X id g) (ho : DX X o τ1) (ha : DX X e τ2)
    (hbase : attributeBase o name X.env (eval o X.env) = eval o X.env := by rfl)
    (hfew : ((backTo cpos (starEach [e] X.env)).all (fun x => !x.1) && (backToKw cpos (keywordEach [] X.env)).all (fun x => x.1.isSome)
      && decide (([e] : List Expr).length + ([] : List Keyword).length + (if ([] : List Keyword).isEmpty then 0 else 1) < 30)) = true := by rfl)
    (hline : (apos.endLine == cpos.line) = true := by rfl) (hs : starEach [e] X.env = (false, eval e X.env) :: starEach [] X.env := by rfl) (hplain : (backTo cpos (starEach [] X.env)).any (·.1) = false := by rfl) :
    DX X (.Call (.Attribute o name apos) [e] [] cpos) (rmM T g τ1 τ2) := by
  obtain ⟨r, hm, hr⟩ := m.ex
  obtain ⟨to, po, ho⟩ := ho.ex
  obtain ⟨ta, pe, ha⟩ := ha.ex
  refine ⟨_, pe_bm pa slot hty hm po (pa_cons pe pa_nil hs) hbase hfew hline hs hplain, fun B0 B F ρ σ H Q rv ρ' S e q => ?_⟩
  obtain ⟨r1, ρ1, u1, w1⟩ := bnd_some e
  obtain ⟨a0, ρ2, u2, w2⟩ := bnd_some w1
  obtain ⟨u2', rfl⟩ := seeM_some u2
  split at w2
  · rename_i hT
    obtain ⟨r2, ρ3, u3, w3⟩ := bnd_some w2
    obtain ⟨d1, ρ4, u4, w4⟩ := bnd_some w3
    obtain ⟨d2, ρ5, u5, w5⟩ := bnd_some w4
    obtain ⟨u6, rfl⟩ := lft_some w5
    obtain ⟨u5', rfl⟩ := seeM_some u5
    obtain ⟨u4', rfl⟩ := seeM_some u4
    exact twoT (P := fun x H1 => tyV X.K T x H1) (R := fun x y H2 => r x [y] H2 Q) ho ha S u1 u3 u2' u4' u5' (fun x F1 H1 S1 k1 => isTy_ok S1.fh k1 hT) fun x y F' H' x' S' k1 k2 => hr B0 B F' _ σ H' x y d1 d2 rv Q S' k1 k2 u6 fun v F2 H2 x2 S2 k => q v F2 H2 (x'.trans x2) S2 k
  · cases w2
def idxI (i : Int) : List Int → Option Nat
  | [] => none
  | j :: r => if j = i then some 0 else match idxI i r with
    | some k => some (k + 1)
    | none => none
theorem idxI_ok {i : Int} : ∀ {ns : List Int} {k : Nat}, idxI i ns = some k → ns[k]? = some i ∧ ∀ m j, m < k → ns[m]? = some j → j ≠ i
  | [], k, h => by cases h
  | j :: r, k, h => by
    simp only [idxI] at h
    split at h
    · rename_i e
      cases h
      exact ⟨by simp [e], fun m j hm => absurd hm (Nat.not_lt_zero _)⟩
    · rename_i e
      split at h <;> cases h
      rename_i k' e'
      obtain ⟨h1, h2⟩ := idxI_ok e'
      refine ⟨by simpa using h1, fun m j' hm ej => ?_⟩
      cases m with
      | zero => simp at ej; rw [← ej]; exact e
      | succ m => exact h2 m j' (by omega) (by simpa using ej)
def gIndex : D → D → Option Rv
  | .list l, .int i => match intsD l with
    | some ns => match idxI i ns with
      | some k => some (.rep (.int k))
      | none => none
    | none => none
  | _, _ => none
theorem rm_index : RmD X "list.index" gIndex := by
  refine ⟨_, mt_index, fun B0 B F ρ σ H x y a b rv Q S k1 k2 e q => ?_⟩
  unfold gIndex at e
  split at e
  · split at e
    · rename_i ns en
      split at e <;> cases e
      rename_i k ek
      obtain ⟨p, vs, rfl, h1, r1⟩ := k1.lst S.fh
      rw [ints_some en] at r1
      have := r1.of_ints
      subst this
      cases k2.int
      obtain ⟨i1, i2⟩ := idxI_ok ek
      refine ⟨p, _, _, k, _, rfl, rfl, SqL.of h1, rfl, by simp [flatV], by rw [List.getElem?_map, i1]; rfl, by simp [eqV], fun m z' hm ez => ?_, q _ F H (Ext.refl B F) S (.int _)⟩
      rw [List.getElem?_map] at ez
      cases qq : ns[m]? with
      | none => rw [qq] at ez; cases ez
      | some j =>
        rw [qq] at ez
        cases ez
        have := i2 m j hm qq
        simp [eqV, this]
    · cases e
  · cases e
end
end DL
set_option Elab.async false
set_option linter.all false
set_option maxRecDepth 100000
set_option maxHeartbeats 1000000
namespace DL
open PySem PySem.Spec L2

section
variable {X : Cx} {e e2 o elt tg iter : Expr} {es : List Expr} {pos p q p2 px apos cpos : Pos} {τ τ1 τ2 : M Rv} {K : PySem.W.Frag}
/-! ### the script -/
def lenScrM (i : Nat) : M Rv := fun ρ => match ρ[i]? with
  | some (.scr l) => some (.rep (.int l.length), ρ)
  | _ => none
theorem dx_lenScr (i : Nat) {x : Str} (hm : X.mg "len" = none) (hN : X.N[i]? = some x := by rfl) (hv : Vis X.env.scope x := by first | exact Or.inl rfl | exact Or.inr (Or.inl rfl) | exact Or.inr (Or.inr rfl)) (hg : Gl X "len" := by rfl)
    (hd : (x == ("__debug__" : Str)) = false := by decide) (hcd : (x == ("__classdict__" : Str)) = false := by decide)
    (he : starEach [.Name x px] X.env = (false, eval (.Name x px) X.env) :: starEach [] X.env := by rfl) (hpl : (backTo pos (starEach [] X.env)).any (·.1) = false := by rfl) : DX X (.Call (.Name "len" p) [.Name x px] [] pos) (lenScrM i) := by
  refine ⟨_, pe_callB call_len hg hm PySem.boot_len (pa_cons (pe_var hN hv hd hcd) pa_nil he) (by decide) (by decide) he hpl, fun B0 B F ρ σ H Q r ρ' S e q => ?_⟩
  unfold lenScrM at e
  split at e <;> cases e
  rename_i l el
  obtain ⟨p', e1, k⟩ := S.slot i _ el
  refine ⟨_, e1, _, _, rfl, .inl ⟨_, SqL.sb (S.bb.trans S.bh) k, rfl⟩, ?_⟩
  rw [List.length_map]
  exact q _ F H (Ext.refl B F) S (.int _)
def ixScrM (i : Nat) (τ : M Rv) : M Rv := fun ρ0 => match ρ0[i]? with
  | some (.scr l) => match τ ρ0 with
    | some (.rep (.int j), ρ) => match L2.atI l j with
      | some n => some (.rep (.int n), ρ)
      | none => none
    | _ => none
  | _ => none
theorem dx_ixScr (i : Nat) {x : Str} (hb : DX X e2 τ2) (hN : X.N[i]? = some x := by rfl) (hv : Vis X.env.scope x := by first | exact Or.inl rfl | exact Or.inr (Or.inl rfl) | exact Or.inr (Or.inr rfl)) (hs : PlainIx e2 := by exact fun _ _ => rfl)
    (hd : (x == ("__debug__" : Str)) = false := by decide) (hcd : (x == ("__classdict__" : Str)) = false := by decide) : DX X (.Subscript (.Name x px) e2 pos) (ixScrM i τ2) := by
  obtain ⟨tb, pb, hb⟩ := hb.ex
  refine ⟨_, pe_ix ix_list (pe_var hN hv hd hcd) pb hs, fun B0 B F ρ σ H Q r ρ' S e q => ?_⟩
  unfold ixScrM at e
  split at e
  · rename_i l el
    obtain ⟨p', e1, k⟩ := S.slot i _ el
    split at e
    · rename_i j ρ1 ej
      split at e
      · rename_i n en
        cases e
        refine ⟨_, e1, hb B0 B F ρ σ H _ _ _ S ej fun v F1 H1 x1 S1 k1 => ?_⟩
        have k1 : Rep F1 v (.int j) := k1
        cases k1
        refine ⟨p', _, j, .int n, rfl, rfl, SqL.sb (S1.bb.trans S1.bh) k, ?_, q _ F1 H1 x1 S1 (.int _)⟩
        unfold L2.atI at en ⊢
        rw [List.length_map]
        cases qq : ixN l.length j with
        | none => rw [qq] at en; cases en
        | some m =>
          rw [qq] at en
          have en : l[m]? = some n := en
          show (l.map V.int)[m]? = some (.int n)
          rw [List.getElem?_map, en]
          rfl
      · cases e
    · cases e
  · cases e

/-! ### what is walked: lists, tuples, texts -/
theorem pi_or {w1 w2 : TI} (h1 : PI X tg e w1) (h2 : PI X tg e w2) : PI X tg e (fun σ H R => w1 σ H R ∨ w2 σ H R) := by
  refine ⟨fun pins s σ H R I w => ?_⟩
  rcases w with w | w
  · exact h1.run pins s σ H R I w
  · exact h2.run pins s σ H R I w
def signs : List Nat → List D
  | [] => []
  | c :: r => .str ⟨#[c]⟩ :: signs r
theorem signs_len : ∀ l : List Nat, (signs l).length = l.length
  | [] => rfl
  | c :: r => by rw [signs, List.length_cons, List.length_cons, signs_len r]
theorem signs_get : ∀ (l : List Nat) (i : Nat) (d : D), (signs l)[i]? = some d → ∃ c, l[i]? = some c ∧ d = .str ⟨#[c]⟩
  | [], i, d, h => by simp [signs] at h
  | c :: r, 0, d, h => by simp [signs] at h; exact ⟨c, rfl, h.symm⟩
  | c :: r, i + 1, d, h => by
    obtain ⟨c', a, b⟩ := signs_get r i d (by simpa [signs] using h)
    exact ⟨c', by simpa using a, b⟩
theorem walk_str {F : Hp} {x : Str} : Walk K F (Its x) (signs x.cps.toList) where
  go := fun i H s hi => by rw [signs_len, Array.length_toList] at hi; exact hi
  stop := fun H s => by rw [signs_len, Array.length_toList]; exact Nat.le_refl _
  yld := fun i H v H' d s hd y B0 B F' ρ σ sF S => by
    obtain ⟨rfl, c, ec, rfl⟩ := y
    obtain ⟨c', ec', rfl⟩ := signs_get _ _ _ hd
    rw [Array.getElem?_toList, ec] at ec'
    cases ec'
    exact ⟨F', Ext.refl B F', S, .str _⟩
def seqOf : D → Option (List D)
  | .list l => some l
  | .tuple l => some l
  | .str x => some (signs x.cps.toList)
  | _ => none
theorem di_seq (h : DX X e τ) : DI X tg e (bnd (bnd τ keep) fun d => lft (seqOf d)) := by
  obtain ⟨t, pe, h⟩ := h.ex
  refine ⟨_, pi_or (pi_list pe) (pi_or (pi_tup pe) (pi_str pe)), fun B0 B F ρ σ H R l ρ' S e q => ?_⟩
  obtain ⟨d, ρ1, u1, w1⟩ := bnd_some e
  obtain ⟨u2, rfl⟩ := lft_some w1
  cases d with
  | list l' =>
    cases u2
    refine .inl (rd_keep h S u1 fun v F' H' x' S' k => ?_)
    cases k with
    | lst a b => exact ⟨_, rfl, ⟨_, SqL.of (S'.fh _ _ a)⟩, q _ F' H' x' S' (walk_list a b)⟩
  | tuple l' =>
    cases u2
    refine .inr (.inl (rd_keep h S u1 fun v F' H' x' S' k => ?_))
    cases k with
    | tup a b => exact ⟨_, rfl, ⟨_, SqT.of (S'.fh _ _ a)⟩, q _ F' H' x' S' (walk_tup a b)⟩
  | str z =>
    cases u2
    refine .inr (.inr (rd_keep h S u1 fun v F' H' x' S' k => ?_))
    cases k with
    | str x => exact ⟨z, rfl, q _ F' H' x' S' walk_str⟩
  | _ => cases u2
end

/-! ### ends -/
section
variable {P : Program} {w : World} {K : PySem.W.Frag} {mg : Str → Option Value} {base : Heap}
theorem FnD.mono {x : Str} {j k n : Nat} {φ : Fn} (G : FnD P w K mg base x j n φ) (h : j ≤ k) : FnD P w K mg base x k n φ := by
  obtain ⟨f, fd, ps, F, a, b, c⟩ := G.ex
  exact ⟨f, fd, ps, F.mono h, a, b, c⟩
theorem xok {N ps : List Str} {qual : Str} {st : Stmt} {f : Addr} {cdv : Value} {Ar : Around} {outer : List Env} {s : Shared} {H : Hp} {E : XK} {k : Nat} (S : FnScope N ps (defScope st))
    (hr : Room k (Ar.deeper (PyProof.Rows.envOfC qual (defScope st) s.heap.objs.size f cdv))) (hc : (cxOf CX0 P w K mg base N qual (defScope st) f cdv Ar outer s H E).nox.calm = true := by rfl) :
    XOk (cxOf CX0 P w K mg base N qual (defScope st) f cdv Ar outer s H E).nox := ⟨S.nd, hc, PassesOwn.never, hr.units⟩
theorem fn_mk {x : Str} {st : Stmt} {f : Addr} {fd : FuncData} {N ps : List Str} {k : Nat} {A : List Nat} {τ : M Ct} (F : Fun K x x st f fd) (S : FnScope N ps (defScope st)) (hm : mg x = some (.ref f)) (hb : Binds K fd ps [])
    (body : ∀ (cdv : Value) (Ar : Around) (outer : List Env) (s : Shared) (H : Hp) (E : XK), Room k (Ar.deeper (PyProof.Rows.envOfC x (defScope st) s.heap.objs.size f cdv)) → XOk (cxOf CX0 P w K mg base N x (defScope st) f cdv Ar outer s H E).nox →
      DSs (cxOf CX0 P w K mg base N x (defScope st) f cdv Ar outer s H E).nox (defBody st) A τ) : FnD P w K mg base x (k + 1) ps.length (fnM A N.length τ) :=
  ⟨f, fd, ps, fn_d F S fun cdv Ar outer s H E hr => body cdv Ar outer s H E hr (xok S hr), hm, F.kp, hb⟩
/-- a def that calls itself, no turn left -/
theorem fn_zero {x : Str} {st : Stmt} {f : Addr} {fd : FuncData} {ps : List Str} {k n : Nat} (F : Fun K x x st f fd) (hm : mg x = some (.ref f)) (hb : Binds K fd ps []) : FnD P w K mg base x k n (fun _ => none) :=
  ⟨f, fd, ps, ⟨fun vs H Q E h => (by obtain ⟨_, _, _, _, _, _, _, e, _⟩ := h; cases e), fun A outer s H args us vs Q E hr he hb hv h => (by obtain ⟨_, _, _, _, _, _, _, e, _⟩ := h; cases e)⟩, hm, F.kp, hb⟩
theorem law_end {φ : Fn} {a : Addr} {ns : List Int} {H : Hp} {E : XK} {o : En} (h : φ [.scr ns] = some (.rep (.bool true), o)) (hs : SqL K H a (ns.map V.int)) : spD K 1 φ [.ref a] H (fun v _ => v = .bl true) E := by
  refine ⟨rfl, H, fun _ => none, [.scr ns], _, o, ⟨Sb.refl H, Sb.refl H, (fun _ _ z => by cases z), rfl, fun i sl e => ?_, fun i j p ne h1 => ?_⟩, h, fun v F' H' x' S' k => ?_⟩
  · cases i with
    | zero => cases e; exact ⟨a, rfl, hs⟩
    | succ i => simp at e
  · cases i with
    | zero => cases h1
    | succ i => simp [ownS] at h1
  · have k : Rep F' v (.bool true) := k
    cases k; rfl
end
end DL
set_option Elab.async false
set_option linter.all false
set_option maxRecDepth 100000
set_option maxHeartbeats 1000000
namespace DL
open PySem PySem.Spec L2

/-! ### which data can be set in order -/
inductive Ty where
  | int | bl | str | non | l0 | l1 (t : Ty) | t0 | tc (a b : Ty)
  deriving DecidableEq
mutual
def ty : D → Option Ty
  | .int _ => some .int
  | .bool _ => some .bl
  | .str _ => some .str
  | .none => some .non
  | .list l => tyL l
  | .tuple l => tyT l
  | .dict _ => none
def tyL : List D → Option Ty
  | [] => some .l0
  | d :: r => match ty d, tyL r with
    | some t, some .l0 => some (.l1 t)
    | some t, some (.l1 u) => if t = u then some (.l1 t) else none
    | _, _ => none
def tyT : List D → Option Ty
  | [] => some .t0
  | d :: r => match ty d, tyT r with
    | some a, some b => some (.tc a b)
    | _, _ => none
end
theorem tyL_shape : ∀ {l : List D} {t : Ty}, tyL l = some t → (t = .l0 ∧ l = []) ∨ ∃ u, t = .l1 u ∧ ∀ d ∈ l, ty d = some u
  | [], t, h => by simp only [tyL] at h; cases h; exact .inl ⟨rfl, rfl⟩
  | d :: r, t, h => by
    simp only [tyL] at h
    split at h
    · rename_i t' e1 e2
      cases h
      rcases tyL_shape e2 with ⟨_, rfl⟩ | ⟨u, z, _⟩
      · exact .inr ⟨t', rfl, fun d hd => by
        rcases List.mem_cons.mp hd with z | z
        · rw [z]; exact e1
        · cases z⟩
      · cases z
    · rename_i t' u e1 e2
      split at h <;> cases h
      rename_i e
      subst e
      rcases tyL_shape e2 with ⟨z, _⟩ | ⟨u, z, hu⟩
      · cases z
      · cases z
        exact .inr ⟨t', rfl, fun d hd => by
          rcases List.mem_cons.mp hd with z | z
          · rw [z]; exact e1
          · exact hu d z⟩
    · cases h
theorem tyL_kind {l : List D} {t : Ty} (h : tyL l = some t) : t = .l0 ∨ ∃ u, t = .l1 u := by
  rcases tyL_shape h with ⟨a, _⟩ | ⟨u, a, _⟩
  · exact .inl a
  · exact .inr ⟨u, a⟩
theorem tyT_kind : ∀ {l : List D} {t : Ty}, tyT l = some t → t = .t0 ∨ ∃ a b, t = .tc a b
  | [], t, h => by simp only [tyT] at h; cases h; exact .inl rfl
  | d :: r, t, h => by
    simp only [tyT] at h
    split at h <;> cases h
    exact .inr ⟨_, _, rfl⟩
mutual
theorem ty_alike : ∀ (d e : D) (t : Ty), ty d = some t → ty e = some t → W.alike d e = true
  | .int _, e, t, h1, h2 => by
    simp only [ty] at h1
    cases h1
    cases e with
    | int _ => rfl
    | list l => simp only [ty] at h2; rcases tyL_kind h2 with z | ⟨_, z⟩ <;> cases z
    | tuple l => simp only [ty] at h2; rcases tyT_kind h2 with z | ⟨_, _, z⟩ <;> cases z
    | _ => simp [ty] at h2
  | .bool _, e, t, h1, h2 => by
    simp only [ty] at h1
    cases h1
    cases e with
    | bool _ => rfl
    | list l => simp only [ty] at h2; rcases tyL_kind h2 with z | ⟨_, z⟩ <;> cases z
    | tuple l => simp only [ty] at h2; rcases tyT_kind h2 with z | ⟨_, _, z⟩ <;> cases z
    | _ => simp [ty] at h2
  | .str _, e, t, h1, h2 => by
    simp only [ty] at h1
    cases h1
    cases e with
    | str _ => rfl
    | list l => simp only [ty] at h2; rcases tyL_kind h2 with z | ⟨_, z⟩ <;> cases z
    | tuple l => simp only [ty] at h2; rcases tyT_kind h2 with z | ⟨_, _, z⟩ <;> cases z
    | _ => simp [ty] at h2
  | .none, e, t, h1, h2 => by
    simp only [ty] at h1
    cases h1
    cases e with
    | none => rfl
    | list l => simp only [ty] at h2; rcases tyL_kind h2 with z | ⟨_, z⟩ <;> cases z
    | tuple l => simp only [ty] at h2; rcases tyT_kind h2 with z | ⟨_, _, z⟩ <;> cases z
    | _ => simp [ty] at h2
  | .list l, e, t, h1, h2 => by
    simp only [ty] at h1
    cases e with
    | list m => simp only [ty] at h2; simp only [W.alike]; exact tyL_alike l m t h1 h2
    | tuple m =>
      simp only [ty] at h2
      rcases tyL_kind h1 with z | ⟨_, z⟩ <;> subst z <;> (rcases tyT_kind h2 with z | ⟨_, _, z⟩ <;> cases z)
    | _ => (simp only [ty] at h2 <;> (cases h2 <;> rcases tyL_kind h1 with z | ⟨_, z⟩ <;> cases z))
  | .tuple l, e, t, h1, h2 => by
    simp only [ty] at h1
    cases e with
    | tuple m => simp only [ty] at h2; simp only [W.alike]; exact tyT_alike l m t h1 h2
    | list m =>
      simp only [ty] at h2
      rcases tyT_kind h1 with z | ⟨_, _, z⟩ <;> subst z <;> (rcases tyL_kind h2 with z | ⟨_, z⟩ <;> cases z)
    | _ => (simp only [ty] at h2 <;> (cases h2 <;> rcases tyT_kind h1 with z | ⟨_, _, z⟩ <;> cases z))
  | .dict _, e, t, h1, h2 => by simp [ty] at h1
theorem tyL_alike : ∀ (l m : List D) (t : Ty), tyL l = some t → tyL m = some t → W.alikeAll l m = true
  | [], m, t, h1, h2 => by cases m <;> simp [W.alikeAll]
  | d :: r, [], t, h1, h2 => by simp [W.alikeAll]
  | d :: r, e :: s, t, h1, h2 => by
    have a1 := h1
    have a2 := h2
    rcases tyL_shape h1 with ⟨_, z⟩ | ⟨u, rfl, hu⟩
    · cases z
    · rcases tyL_shape h2 with ⟨z, _⟩ | ⟨u', z, hu'⟩
      · cases z
      · cases z
        simp only [W.alikeAll, Bool.and_eq_true]
        refine ⟨ty_alike d e u (hu d List.mem_cons_self) (hu' e List.mem_cons_self), ?_⟩
        simp only [tyL] at a1 a2
        rw [hu d List.mem_cons_self] at a1
        rw [hu' e List.mem_cons_self] at a2
        cases q1 : tyL r with
        | none => rw [q1] at a1; cases a1
        | some t1 =>
          cases q2 : tyL s with
          | none => rw [q2] at a2; cases a2
          | some t2 =>
            rcases tyL_shape q1 with ⟨rfl, rfl⟩ | ⟨v1, rfl, hv1⟩
            · cases s <;> simp [W.alikeAll]
            · rcases tyL_shape q2 with ⟨rfl, rfl⟩ | ⟨v2, rfl, hv2⟩
              · cases r <;> simp [W.alikeAll]
              · rw [q1] at a1
                rw [q2] at a2
                simp only at a1 a2
                split at a1
                · rename_i e1
                  split at a2
                  · rename_i e2
                    subst e1; subst e2
                    exact tyL_alike r s _ q1 q2
                  · cases a2
                · cases a1
theorem tyT_alike : ∀ (l m : List D) (t : Ty), tyT l = some t → tyT m = some t → W.alikeAll l m = true
  | [], m, t, h1, h2 => by cases m <;> simp [W.alikeAll]
  | d :: r, [], t, h1, h2 => by simp [W.alikeAll]
  | d :: r, e :: s, t, h1, h2 => by
    simp only [tyT] at h1 h2
    split at h1 <;> cases h1
    rename_i a b e1 e2
    split at h2 <;> cases h2
    rename_i e3 e4
    simp only [W.alikeAll, Bool.and_eq_true]
    exact ⟨ty_alike d e a e1 e3, tyT_alike r s b e2 e4⟩
end
def alikeOk (l : List D) : Bool := match l with
  | [] => true
  | d :: r => match ty d with
    | some t => r.all (fun e => ty e == some t) || l.all fun a => l.all fun b => W.alike a b
    | none => l.all fun a => l.all fun b => W.alike a b
theorem alikeOk_ok {l : List D} (h : alikeOk l = true) : ∀ a ∈ l, ∀ b ∈ l, W.alike a b = true := by
  have pair : (l.all fun a => l.all fun b => W.alike a b) = true → ∀ a ∈ l, ∀ b ∈ l, W.alike a b = true := fun h a ha b hb => by
    exact List.all_eq_true.mp (List.all_eq_true.mp h a ha) b hb
  cases l with
  | nil => intro a ha; cases ha
  | cons d r =>
    simp only [alikeOk] at h
    split at h
    · rename_i t et
      rcases Bool.or_eq_true_iff.mp h with h | h
      · have all : ∀ e ∈ d :: r, ty e = some t := fun e he => by
          rcases List.mem_cons.mp he with z | z
          · rw [z]; exact et
          · exact beq_iff_eq.mp (List.all_eq_true.mp h e z)
        exact fun a ha b hb => ty_alike a b t (all a ha) (all b hb)
      · exact pair h
    · exact pair h
/-- whole numbers alone: the quick way -/
def allInt : List D → Bool
  | [] => true
  | .int _ :: r => allInt r
  | _ => false
theorem allInt_ok : ∀ {l : List D}, allInt l = true → ∀ d ∈ l, ∃ i, d = .int i
  | [], _, d, hd => by cases hd
  | x :: r, h, d, hd => by
    cases x with
    | int i =>
      simp only [allInt] at h
      rcases List.mem_cons.mp hd with z | z
      · exact ⟨i, z⟩
      · exact allInt_ok h d z
    | _ => cases h
def isTc : D → Bool
  | .tuple (_ :: _) => true
  | _ => false
def notTn : D → Bool
  | .tuple _ => false
  | .none => false
  | _ => true
def sortOk (l : List D) : Bool := allInt l || (alikeOk l && (l.all isTc || l.all notTn) && PyData.plainAll l && l.all (fun d => decide (d.depth ≤ 50)))
theorem sortOk_ok {l : List D} (h : sortOk l = true) : W.AllAlike l ∧ W.Sortable l ∧ PyData.plainAll l = true ∧ ∀ d ∈ l, d.depth ≤ 50 := by
  rcases Bool.or_eq_true_iff.mp h with h | h
  · have hi := allInt_ok h
    refine ⟨fun a ha b hb => ?_, .inr fun d hd => ?_, ?_, fun d hd => ?_⟩
    · obtain ⟨i, rfl⟩ := hi a ha
      obtain ⟨j, rfl⟩ := hi b hb
      rfl
    · obtain ⟨i, rfl⟩ := hi d hd
      exact ⟨fun z => (by cases z), fun xs z => (by cases z)⟩
    · clear hi
      induction l with
      | nil => rfl
      | cons d r ih =>
        cases d with
        | int i => simp only [allInt] at h; simp only [PyData.plainAll, PyData.plain, ih (by simp [sortOk, h]) h, Bool.and_self]
        | _ => cases h
    · obtain ⟨i, rfl⟩ := hi d hd
      exact Nat.zero_le _
  · simp only [Bool.and_eq_true] at h
    obtain ⟨⟨⟨h1, h2⟩, h3⟩, h4⟩ := h
    refine ⟨fun a ha b hb => alikeOk_ok h1 a ha b hb, ?_, h3, fun d hd => by simpa using List.all_eq_true.mp h4 d hd⟩
    rcases Bool.or_eq_true_iff.mp h2 with h2 | h2
    · refine .inl fun d hd => ?_
      have := List.all_eq_true.mp h2 d hd
      cases d with
      | tuple l =>
        cases l with
        | nil => cases this
        | cons x r => exact ⟨x, r, rfl⟩
      | _ => cases this
    · refine .inr fun d hd => ?_
      have := List.all_eq_true.mp h2 d hd
      exact ⟨fun z => (by rw [z] at this; cases this), fun xs z => (by rw [z] at this; cases this)⟩
/-- a ≤ b in Python's order -/
def leD : D → D → Bool
  | .int i, .int j => decide (i ≤ j)
  | a, b => !W.dataLt b a
theorem leD_eq (a b : D) : leD a b = W.dataLe false (fun d : D => d) a b := by
  have e : W.dataLe false (fun d : D => d) a b = !W.dataLt b a := rfl
  rw [e]
  unfold leD
  split
  · rename_i i j
    rw [W.dataLt_int]
    by_cases h : i ≤ j
    · simp [h, Int.not_lt.mpr h]
    · simp [h, Int.lt_of_not_ge h]
  · rfl
def insD (x : D) : List D → List D
  | [] => [x]
  | y :: r => if leD x y then x :: y :: r else y :: insD x r
def sortD : List D → List D
  | [] => []
  | x :: r => insD x (sortD r)
theorem leD_trans (a b c : D) (h1 : leD a b = true) (h2 : leD b c = true) : leD a c = true := by
  rw [leD_eq] at *
  exact (W.sortLe_total _ false _).trans a b c h1 h2
theorem leD_total (a b : D) : (leD a b || leD b a) = true := by
  rw [leD_eq, leD_eq]
  exact Bool.or_eq_true_iff.mpr ((W.sortLe_total _ false _).total a b)
theorem sortD_eq : ∀ l : List D, l.mergeSort leD = sortD l
  | [] => by simp [sortD]
  | x :: r => by
    obtain ⟨l1, l2, e1, e2, e3⟩ := List.mergeSort_cons (le := leD) leD_trans leD_total x r
    have ps := List.pairwise_mergeSort (le := leD) leD_trans leD_total (x :: r)
    rw [e1] at ps
    rw [e1, sortD, ← sortD_eq r, e2]
    have hl2 : ∀ b ∈ l2, leD x b = true := (List.pairwise_cons.mp (List.pairwise_append.mp ps).2.1).1
    clear e1 e2 ps
    induction l1 with
    | nil =>
      cases l2 with
      | nil => rfl
      | cons y s => simp only [List.nil_append, insD]; rw [if_pos (hl2 y List.mem_cons_self)]
    | cons y s ih =>
      simp only [List.cons_append, insD]
      have hy := e3 y List.mem_cons_self
      rw [if_neg (by simpa using hy), ih fun b hb => e3 b (List.mem_cons_of_mem _ hb)]
theorem sortD_dataLe (l : List D) : l.mergeSort (W.dataLe false fun d : D => d) = sortD l := by
  rw [← sortD_eq]
  congr 1
  funext a b
  exact (leD_eq a b).symm

section
variable {X : Cx} {e e2 o elt tg iter : Expr} {es : List Expr} {pos p q p2 px apos cpos : Pos} {τ τ1 τ2 : M Rv} {K : PySem.W.Frag} {τd : M (List D)}
theorem each_reps {F : Hp} : ∀ {vs : List V} {us : List Value} {ds : List D}, Vals vs us → Reps F vs ds → W.EachIs (fun u d => ∃ x, RelV x u ∧ Rep F x d) us ds
  | _, _, _, .nil, .nil => .nil
  | _, _, _, .cons a b, .cons c d => .cons ⟨_, a, c⟩ (each_reps b d)
theorem reps_each {F : Hp} : ∀ {us : List Value} {ds : List D}, W.EachIs (fun u d => ∃ x, RelV x u ∧ Rep F x d) us ds → ∃ vs, Vals vs us ∧ Reps F vs ds
  | _, _, .nil => ⟨[], .nil, .nil⟩
  | _, _, .cons ⟨x, a, b⟩ r => by
    obtain ⟨vs, h1, h2⟩ := reps_each r
    exact ⟨x :: vs, .cons a h1, .cons b h2⟩
def rSortedD (K : PySem.W.Frag) : List V → Hp → VK → Prop := fun xs H Q => ∃ (a : Addr) (vs : List V) (F : Hp) (ds : List D), xs = [.ref a] ∧ SqL K H a vs ∧ Sb F H ∧ Reps F vs ds ∧ sortOk ds = true ∧
  ∀ vs' p, Reps F vs' (sortD ds) → H p = none → Q (.ref p) (upd H p (.lst vs'))
theorem cr_sortedD (hu : X.A.units + 64 < cLine) : CallR X (.builtin "sorted") (rSortedD X.K) := by
  intro pins s σ H xs us Q I r h
  obtain ⟨a, vs, F, ds, rfl, hs, sF, rp, ok, q⟩ := h
  obtain ⟨its, rv, hl, hz⟩ := I.list hs
  rw [Vals.ref1 r]
  obtain ⟨o1, o2, o3, o4⟩ := sortOk_ok ok
  have er : W.EachIs (fun v (b : D) => ∃ as, Reads s.heap v b as) its ds := by
    have e0 := each_reps rv rp
    have : ∀ d ∈ ds, d.plain = true := fun d hd => by
      clear e0 rp ok o1 o2 o4 q
      induction ds with
      | nil => cases hd
      | cons x r ih =>
        simp only [PyData.plainAll, Bool.and_eq_true] at o3
        rcases List.mem_cons.mp hd with z | z
        · rw [z]; exact o3.1
        · exact ih o3.2 z
    clear o1 o2 o3 o4 ok rp q rv hl
    induction e0 with
    | nil => exact .nil
    | cons hx _ ih =>
      obtain ⟨x, a1, a2⟩ := hx
      refine .cons ?_ (ih fun d hd => this d (List.mem_cons_of_mem _ hd))
      exact Dp.reads I _ x _ (Dp.sb sF (a2.dpr (this _ List.mem_cons_self))) a1
  refine W.sorted_data (bs := ds) (enc := fun d : D => d) hl.isList (each_reps rv rp) er (by rw [List.map_id']; exact o1) (by rw [List.map_id']; exact o2) (by rw [← rp.len]; exact hz) (fun b hb => ?_) fun out ho eo => ?_
  · have := o4 b hb
    show X.A.units + 2 + b.depth < cLine
    omega
  · rw [sortD_dataLe] at eo
    obtain ⟨vs', k1, k2⟩ := reps_each eo
    obtain ⟨ep, he'⟩ := PyProof.Rows.sortedAll_at s.heap its out.toArray
    have hlen : vs'.length ≤ sizeLine := by rw [k1.length, ho, ← rp.len]; exact hz
    exact ⟨.ref _, upd H (s.heap.objs.size + 1) (.lst vs'), I.laid (t' := s.toks) (fun _ _ => PyProof.Rows.sortedAll_old) (Nat.le_succ _) ⟨hlen, out, ep, k1, he'⟩, rfl, q _ _ k2 (I.hok.fresh (Nat.le_succ _))⟩
/-- a list of one at most -/
def rSorted1 (K : PySem.W.Frag) : List V → Hp → VK → Prop := fun xs H Q => ∃ (a : Addr) (vs : List V), xs = [.ref a] ∧ SqL K H a vs ∧ vs.length < 2 ∧ ∀ p, H p = none → Q (.ref p) (upd H p (.lst vs))
theorem cr_sorted1 : CallR X (.builtin "sorted") (rSorted1 X.K) := by
  intro pins s σ H xs us Q I r h
  obtain ⟨a, vs, rfl, hs, h2, q⟩ := h
  obtain ⟨its, rv, hl, hz⟩ := I.list hs
  rw [Vals.ref1 r]
  have hlen := rv.length
  refine Srt.sorted_any hl.isList (by rw [← hlen]; exact hz) (fun h3 => by omega) fun out hp => ?_
  have eo : out = its := by
    match its, hp with
    | [], hp => exact hp.eq_nil
    | [x], hp => exact hp.eq_singleton
    | x :: y :: r, _ => simp at hlen; omega
  subst eo
  obtain ⟨ep, he'⟩ := PyProof.Rows.sortedAll_at s.heap out out.toArray
  exact ⟨.ref _, upd H (s.heap.objs.size + 1) (.lst vs), I.laid (t' := s.toks) (fun _ _ => PyProof.Rows.sortedAll_old) (Nat.le_succ _) ⟨hz, out, ep, rv, he'⟩, rfl, q _ (I.hok.fresh (Nat.le_succ _))⟩
def gSorted : D → Option Rv
  | .list l => if (decide (l.length < 2) || sortOk l) = true then some (.new (.list (sortD l))) else none
  | _ => none
theorem c1_sorted (C : XOk X) : C1D X (.builtin "sorted") gSorted := by
  refine ⟨_, cr_sorted1.or (cr_sortedD C.un), fun B0 B F ρ σ H x a rv Q S k e q => ?_⟩
  unfold gSorted at e
  split at e
  · split at e
    · rename_i l hz
      cases e
      obtain ⟨p1, v1, rfl, h1, r1⟩ := k.lst S.fh
      by_cases h2 : l.length < 2
      · refine .inl ⟨p1, v1, rfl, SqL.of h1, by rw [r1.len]; exact h2, fun p hp => q _ F _ (Ext.refl B F) (S.alloc hp) (rv_list S hp ?_)⟩
        have : sortD l = l := by
          match l, h2 with
          | [], _ => rfl
          | [x], _ => rfl
          | x :: y :: r, h2 => simp at h2; omega
        rw [this]; exact r1
      · rw [decide_eq_false h2, Bool.false_or] at hz
        exact .inr ⟨p1, v1, F, l, rfl, SqL.of h1, S.fh, r1, hz, fun vs' p r' hp => q _ F _ (Ext.refl B F) (S.alloc hp) (rv_list S hp r')⟩
    · cases e
  · cases e

/-! ### min, max of a list -/
def ltD : D → D → Bool
  | .int i, .int j => decide (i < j)
  | a, b => W.dataLt a b
theorem ltD_eq (a b : D) : ltD a b = W.dataLt a b := by
  unfold ltD
  split
  · rw [W.dataLt_int]
  · rfl
def minL (x : D) : List D → D
  | [] => x
  | y :: r => minL (if ltD y x then y else x) r
def maxL (x : D) : List D → D
  | [] => x
  | y :: r => maxL (if ltD x y then y else x) r
theorem minL_eq : ∀ (l : List D) (x : D), minL x l = W.minD x l
  | [], _ => rfl
  | y :: r, x => by
    rw [minL, minL_eq r, W.minD, W.minD, List.foldl_cons, ltD_eq]
theorem maxL_eq : ∀ (l : List D) (x : D), maxL x l = W.maxD x l
  | [], _ => rfl
  | y :: r, x => by
    rw [maxL, maxL_eq r, W.maxD, W.maxD, List.foldl_cons, ltD_eq]
def notNone : D → Bool
  | .none => false
  | _ => true
def minOk (l : List D) : Bool := allInt l || (alikeOk l && l.all notNone && PyData.plainAll l && decide (PyData.depthAll l ≤ 50))
theorem depthAll_le : ∀ {l : List D}, (∀ d ∈ l, d.depth ≤ 50) → PyData.depthAll l ≤ 50
  | [], _ => Nat.zero_le _
  | x :: r, h => by
    simp only [PyData.depthAll]
    have := h x List.mem_cons_self
    have := depthAll_le fun d hd => h d (List.mem_cons_of_mem x hd)
    omega
theorem minOk_ok {l : List D} (h : minOk l = true) : W.AlikeAll l ∧ PyData.plainAll l = true ∧ PyData.depthAll l ≤ 50 := by
  rcases Bool.or_eq_true_iff.mp h with h | h
  · have hs : sortOk l = true := by simp [sortOk, h]
    obtain ⟨o1, o2, o3, o4⟩ := sortOk_ok hs
    refine ⟨⟨o1, fun d hd z => ?_⟩, o3, ?_⟩
    · obtain ⟨i, e⟩ := allInt_ok h d hd
      rw [z] at e; cases e
    · exact depthAll_le o4
  · simp only [Bool.and_eq_true, decide_eq_true_eq] at h
    refine ⟨⟨alikeOk_ok h.1.1.1, fun d hd z => ?_⟩, h.1.2, h.2⟩
    have := List.all_eq_true.mp h.1.1.2 d hd
    rw [z] at this; cases this
def rMinD (K : PySem.W.Frag) (f : D → List D → D) : List V → Hp → VK → Prop := fun xs H Q => ∃ (a : Addr) (vs : List V) (F : Hp) (x : D) (ds : List D), xs = [.ref a] ∧ SqL K H a vs ∧ Sb F H ∧ Reps F vs (x :: ds) ∧ minOk (x :: ds) = true ∧
  ∀ v, Rep F v (f x ds) → Q v H
theorem min_core {s : Shared} {σ : List (Option V)} {pins : List (Addr × Obj)} {H F : Hp} {vs : List V} {us : List Value} {ds : List D} {d : D} {i : Nat} {u : Value} {h' : Heap} {bs : List Addr} (I : Inv X pins σ H s) (sF : Sb F H) (rv : Vals vs us) (rp : Reps F vs ds) (pl : PyData.plainAll ds = true)
    (e : us[i]? = some u) (rd : Reads h' u d bs) (hk : ∀ b o, s.heap.get? b = some o → h'.get? b = some o) : ∃ x, RelV x u ∧ Rep F x d := by
  induction rv generalizing i ds with
  | nil => simp at e
  | cons r t ih =>
    cases rp with
    | cons a b =>
      simp only [PyData.plainAll, Bool.and_eq_true] at pl
      cases i with
      | zero =>
        simp only [List.getElem?_cons_zero, Option.some.injEq] at e
        subst e
        obtain ⟨as, h1⟩ := Dp.reads I _ _ _ (Dp.sb sF (a.dpr pl.1)) r
        have h2 := PyProof.Rows.Reads.keeps hk h1
        have := SeqAt.plain_unique _ _ _ _ _ pl.1 h2 rd
        subst this
        exact ⟨_, r, a⟩
      | succ i => exact ih b pl.2 (by simpa using e)
theorem cr_minD (C : XOk X) : CallR X (.builtin "min") (rMinD X.K minL) := by
  intro pins s σ H xs us Q I r h
  obtain ⟨a, vs, F, x, ds, rfl, hs, sF, rp, ok, q⟩ := h
  obtain ⟨its, rv, hl, hz⟩ := I.list hs
  rw [Vals.ref1 r]
  obtain ⟨o1, o3, o4⟩ := minOk_ok ok
  obtain ⟨as, ra⟩ := Dp.readsAll I _ vs its (DpAll.sb sF (rp.dpr o3)) rv
  have hu := C.un
  refine W.min_list_data (I.ok.hd C.calm) hl.isList (by simpa using ra) o1 (by omega) fun i v h' tk bs hv rd hk => ?_
  rw [← minL_eq] at rd
  obtain ⟨y, k1, k2⟩ := min_core I sF rv rp o3 (by simpa using hv) rd hk
  exact ⟨y, H, I.kept (t' := tk) hk, k1, q y k2⟩
theorem cr_maxD (C : XOk X) : CallR X (.builtin "max") (rMinD X.K maxL) := by
  intro pins s σ H xs us Q I r h
  obtain ⟨a, vs, F, x, ds, rfl, hs, sF, rp, ok, q⟩ := h
  obtain ⟨its, rv, hl, hz⟩ := I.list hs
  rw [Vals.ref1 r]
  obtain ⟨o1, o3, o4⟩ := minOk_ok ok
  obtain ⟨as, ra⟩ := Dp.readsAll I _ vs its (DpAll.sb sF (rp.dpr o3)) rv
  have hu := C.un
  refine W.max_list_data (I.ok.hd C.calm) hl.isList (by simpa using ra) o1 (by omega) fun i v h' tk bs hv rd hk => ?_
  rw [← maxL_eq] at rd
  obtain ⟨y, k1, k2⟩ := min_core I sF rv rp o3 (by simpa using hv) rd hk
  exact ⟨y, H, I.kept (t' := tk) hk, k1, q y k2⟩
def gMinF (f : D → List D → D) : D → Option Rv
  | .list (x :: l) => if minOk (x :: l) then some (.rep (f x l)) else none
  | _ => none
def gMin : D → Option Rv := gMinF minL
def gMax : D → Option Rv := gMinF maxL
theorem c1_minF {f : D → List D → D} {b : String} (h : CallR X (.builtin b) (rMinD X.K f)) : C1D X (.builtin b) (gMinF f) := by
  refine ⟨_, h, fun B0 B F ρ σ H x a rv Q S k e q => ?_⟩
  unfold gMinF at e
  split at e
  · split at e
    · rename_i y l hz
      cases e
      obtain ⟨p1, v1, rfl, h1, r1⟩ := k.lst S.fh
      exact ⟨p1, v1, F, y, l, rfl, SqL.of h1, S.fh, r1, hz, fun v r' => q v F H (Ext.refl B F) S r'⟩
    · cases e
  · cases e
theorem c1_min (C : XOk X) : C1D X (.builtin "min") gMin := c1_minF (cr_minD C)
theorem c1_max (C : XOk X) : C1D X (.builtin "max") gMax := c1_minF (cr_maxD C)
end
end DL
set_option Elab.async false
set_option linter.all false
set_option maxRecDepth 100000
set_option maxHeartbeats 1000000
namespace DL
open PySem PySem.Spec L2

section
variable {X : Cx} {e e2 e3 o elt tg iter : Expr} {es : List Expr} {pos p q p2 px apos cpos : Pos} {τ τ1 τ2 τ3 : M Rv} {K : PySem.W.Frag} {τd : M (List D)} {A A1 A2 : List Nat}
/-! ### in, not in -/
def rInD (K : PySem.W.Frag) (neg : Bool) : R2 := fun x y H Q => ∃ (d : D) (ds : List D), Dp K H x d ∧ (Dp K H y (.list ds) ∨ Dp K H y (.tuple ds)) ∧ d.plain = true ∧ PyData.plainAll ds = true ∧ d.depth ≤ 50 ∧ Q (.bl (if neg then !ds.any (fun z => PyData.eqv z d) else ds.any fun z => PyData.eqv z d)) H
theorem op_inD (hu : X.A.units + 64 < cLine) : OpR X (compareOp .In) (rInD X.K false) := by
  intro pins s σ H x y v u Q I rx ry h
  obtain ⟨d, ds, h1, h2, p1, p2, hd, q⟩ := h
  obtain ⟨as, r1⟩ := Dp.reads I d x v h1 rx
  rcases h2 with h2 | h2
  · obtain ⟨bs, r2⟩ := Dp.reads I _ y u h2 ry
    exact SeqAt.in_list_data r2 r1 p2 p1 (by omega) ⟨.bl _, H, I, rfl, q⟩
  · obtain ⟨bs, r2⟩ := Dp.reads I _ y u h2 ry
    exact SeqAt.in_tuple_data r2 r1 p2 p1 (by omega) ⟨.bl _, H, I, rfl, q⟩
theorem op_notInD (hu : X.A.units + 64 < cLine) : OpR X (compareOp .NotIn) (rInD X.K true) := by
  intro pins s σ H x y v u Q I rx ry h
  obtain ⟨d, ds, h1, h2, p1, p2, hd, q⟩ := h
  obtain ⟨as, r1⟩ := Dp.reads I d x v h1 rx
  rcases h2 with h2 | h2
  · obtain ⟨bs, r2⟩ := Dp.reads I _ y u h2 ry
    exact SeqAt.notIn_list_data r2 r1 p2 p1 (by omega) ⟨.bl _, H, I, rfl, q⟩
  · obtain ⟨bs, r2⟩ := Dp.reads I _ y u h2 ry
    exact SeqAt.notIn_tuple_data r2 r1 p2 p1 (by omega) ⟨.bl _, H, I, rfl, q⟩
/-- whole numbers the quick way -/
def memD (d : D) : List D → Option Bool
  | [] => some false
  | y :: r => match eqD y d with
    | some true => some true
    | some false => memD d r
    | none => none
def gInL (neg : Bool) (a b : D) : Option Rv := match seqOf' b with
  | some ds => if a.plain && PyData.plainAll ds && decide (a.depth ≤ 50) then (match memD a ds with
    | some k => some (.rep (.bool (if neg then !k else k)))
    | none => none) else none
  | none => none
where seqOf' : D → Option (List D)
  | .list l => some l
  | .tuple l => some l
  | _ => none
theorem memD_any {d : D} : ∀ {ds : List D} {k : Bool}, memD d ds = some k → ds.any (fun z => PyData.eqv z d) = k
  | [], k, h => by simp only [memD] at h; cases h; rfl
  | y :: r, k, h => by
    simp only [memD] at h
    split at h
    · rename_i e
      cases h
      obtain ⟨_, _, _, ev⟩ := eqD_some e
      simp [ev]
    · rename_i e
      obtain ⟨_, _, _, ev⟩ := eqD_some e
      rw [List.any_cons, ev, memD_any h]
      simp
    · cases h
theorem opd_inAny {op : CmpOp} {neg : Bool} (h : OpR X (compareOp op) (rInD X.K neg)) : OpD X (compareOp op) (gInL neg) := by
  refine ⟨_, h, fun B0 B F ρ σ H x y a b rv Q S k1 k2 e q => ?_⟩
  unfold gInL at e
  split at e
  · rename_i ds eb
    split at e
    · rename_i hh
      simp only [Bool.and_eq_true, decide_eq_true_eq] at hh
      split at e <;> cases e
      rename_i k ek
      refine ⟨a, ds, k1.dp S.fh hh.1.1, ?_, hh.1.1, hh.1.2, hh.2, ?_⟩
      · cases b with
        | list l => cases eb; exact .inl (k2.dp S.fh (by simpa [PyData.plain] using hh.1.2))
        | tuple l => cases eb; exact .inr (k2.dp S.fh (by simpa [PyData.plain] using hh.1.2))
        | _ => cases eb
      · rw [memD_any ek]
        exact q _ F H (Ext.refl B F) S (.bl _)
    · cases e
  · cases e
/-- a text in a text -/
def gInS (neg : Bool) : D → D → Option Rv
  | .str i, .str j => some (.rep (.bool (if neg then (Builtin.Str.occurrences j i 0 j.length 1).isEmpty else !(Builtin.Str.occurrences j i 0 j.length 1).isEmpty)))
  | _, _ => none
theorem opd_inS : OpD X (compareOp .In) (gInS false) := by
  refine ⟨_, op_in_str, fun B0 B F ρ σ H x y a b rv Q S k1 k2 e q => ?_⟩
  unfold gInS at e
  split at e <;> cases e
  exact ⟨_, _, k1.str, k2.str, q _ F H (Ext.refl B F) S (.bl _)⟩
theorem opd_notinS : OpD X (compareOp .NotIn) (gInS true) := by
  refine ⟨_, op_notIn_str, fun B0 B F ρ σ H x y a b rv Q S k1 k2 e q => ?_⟩
  unfold gInS at e
  split at e <;> cases e
  refine ⟨_, _, k1.str, k2.str, ?_⟩
  rw [Bool.not_not]
  exact q _ F H (Ext.refl B F) S (.bl _)
def gIn (neg : Bool) (a b : D) : Option Rv := match gInL neg a b with
  | some r => some r
  | none => gInS neg a b
theorem opd_in (C : XOk X) : OpD X (compareOp .In) (gIn false) := (opd_inAny (op_inD C.un)).or opd_inS
theorem opd_notin (C : XOk X) : OpD X (compareOp .NotIn) (gIn true) := (opd_inAny (op_notInD C.un)).or opd_notinS

/-! ### slices -/
def RdP (K : PySem.W.Frag) (t : TO) (τ : M (Option Int)) : Prop := ∀ (B0 B F : Hp) (ρ : En) (σ : List (Option V)) (H : Hp) (Q : Option Int → Hp → Prop) (r : Option Int) (ρ' : En), SOk K B0 B F ρ σ H → τ ρ = some (r, ρ') →
  (∀ F' H', Ext B F F' → SOk K B0 B F' ρ' σ H' → Q r H') → t σ H Q
structure DP (X : Cx) (e : Option Expr) (τ : M (Option Int)) : Prop where
  ex : ∃ t, PO X e t ∧ RdP X.K t τ
def poN : M (Option Int) := fun ρ => some (none, ρ)
def poS (τ : M Rv) : M (Option Int) := bnd τ fun r => match r with
  | .rep (.int i) => pur (some i)
  | _ => fun _ => none
theorem po_n : DP X none poN := ⟨_, po_none, fun B0 B F ρ σ H Q r ρ' S e q => by
  cases e
  exact q F H (Ext.refl B F) S⟩
theorem po_s (h : DX X e τ) : DP X (some e) (poS τ) := by
  obtain ⟨t, pe, h⟩ := h.ex
  refine ⟨_, po_some pe, fun B0 B F ρ σ H Q r ρ' S e q => ?_⟩
  obtain ⟨r1, ρ1, u1, w1⟩ := bnd_some e
  refine h B0 B F ρ σ H _ r1 ρ1 S u1 fun v F1 H1 x1 S1 k1 => ?_
  split at w1 <;> cases w1
  rename_i i
  have k1 : Rep F1 v (.int i) := k1
  cases k1
  exact ⟨i, rfl, q F1 H1 x1 S1⟩
def cutD (xs : List D) (lo hi : Option Int) : List D := (xs.drop (HT.sIx xs.length 0 lo)).take (HT.sIx xs.length xs.length hi - HT.sIx xs.length 0 lo)
def gSl (d : D) (lo hi : Option Int) : Option Rv := match d with
  | .list l => some (.new (.list (cutD l lo hi)))
  | .tuple l => some (.rep (.tuple (cutD l lo hi)))
  | .str z => if z.length ≤ 16777216 then some (.rep (.str (cutS z lo hi))) else none
  | _ => none
def slM (τ : M Rv) (τl τh : M (Option Int)) : M Rv := bnd τ fun r => bnd τl fun lo => bnd τh fun hi => bnd (seeM r) fun d => lft (gSl d lo hi)
def rSlD (K : PySem.W.Frag) : V → Option Int → Option Int → Hp → VK → Prop := fun x lo hi H Q => rSlL K x lo hi H Q ∨ rSlA K x lo hi H Q ∨ rSlS x lo hi H Q
theorem sl_D : SlR X (rSlD X.K) := sl_list.or (sl_tupA.or sl_str)
theorem Reps.cut {F : Hp} {vs : List V} {ds : List D} (r : Reps F vs ds) (lo hi : Option Int) : Reps F (cutV vs lo hi) (cutD ds lo hi) := by
  unfold cutV cutD
  rw [r.len]
  exact (r.drop _).take _
theorem dx_slice {lo hi : Option Expr} {τl τh : M (Option Int)} (ha : DX X e τ) (hl : DP X lo τl) (hh : DP X hi τh) : DX X (.Subscript e (.Slice lo hi none p2) pos) (slM τ τl τh) := by
  obtain ⟨t, pe, ha⟩ := ha.ex
  obtain ⟨tl, pl, hl⟩ := hl.ex
  obtain ⟨th, ph, hh⟩ := hh.ex
  refine ⟨_, pe_slice sl_D pe pl ph, fun B0 B F ρ σ H Q rv ρ' S e q => ?_⟩
  obtain ⟨r, ρ1, u1, w1⟩ := bnd_some e
  obtain ⟨l, ρ2, u2, w2⟩ := bnd_some w1
  obtain ⟨h, ρ3, u3, w3⟩ := bnd_some w2
  obtain ⟨d, ρ4, u4, w4⟩ := bnd_some w3
  obtain ⟨u5, rfl⟩ := lft_some w4
  obtain ⟨u4', rfl⟩ := seeM_some u4
  -- what follows when the operand is seen
  have fin : ∀ (x : V) (F' H' : Hp), Ext B F F' → SOk X.K B0 B F' ρ' σ H' → Seen F' H' x d → rSlD X.K x l h H' Q := fun x F' H' x' S' k => by
    unfold gSl at u5
    split at u5
    · cases u5
      obtain ⟨p1, v1, rfl, h1, r1⟩ := k.lst S'.fh
      exact .inl ⟨p1, v1, rfl, SqL.of h1, fun p hp => q _ F' _ x' (S'.alloc hp) (rv_list S' hp (r1.cut l h))⟩
    · rename_i lst
      cases u5
      obtain ⟨p1, v1, rfl, h1, r1⟩ := k.tup
      refine .inr (.inl ⟨p1, v1, rfl, SqT.of (S'.fh _ _ h1), fun z => ?_, fun _ p hp => rv_tup S' hp (r1.cut l h) fun v F2 H2 x2 S2 k2 => q v F2 H2 (x'.trans x2) S2 k2⟩)
      have ee : cutD lst l h = lst := by
        have hl := r1.len
        unfold cutD
        rw [← hl, z.1, z.2, List.drop_zero, Nat.sub_zero, hl]
        exact List.take_length
      rw [ee] at q
      exact q _ F' H' x' S' (Rep.tup h1 r1)
    · split at u5
      · rename_i hz
        cases u5
        exact .inr (.inr ⟨_, k.str, by rw [sizeLine_eq]; exact hz, q _ F' H' x' S' (.str _)⟩)
      · cases u5
    · cases u5
  refine ha B0 B F ρ σ H _ r ρ1 S u1 fun v1 F1 H1 x1 S1 k1 => ?_
  cases r with
  | rep d0 =>
    refine hl B0 B F1 ρ1 σ H1 _ l ρ2 S1 u2 fun F2 H2 x2 S2 => ?_
    refine hh B0 B F2 ρ2 σ H2 _ h ρ' S2 u3 fun F3 H3 x3 S3 => ?_
    exact fin v1 F3 H3 (x1.trans (x2.trans x3)) S3 (S3.seen (show RvOk X.K B0 B F3 ρ' σ H3 v1 (.rep d0) from Rep.mono (x2.trans x3).1 k1) u4')
  | bor i =>
    refine hl B0 B F1 ρ1 σ H1 _ l ρ2 S1 u2 fun F2 H2 x2 S2 => ?_
    refine hh B0 B F2 ρ2 σ H2 _ h ρ' S2 u3 fun F3 H3 x3 S3 => ?_
    exact fin v1 F3 H3 (x1.trans (x2.trans x3)) S3 (S3.seen (show RvOk X.K B0 B F3 ρ' σ H3 v1 (.bor i) from k1) u4')
  | new d0 =>
    obtain ⟨p', rfl, hF, hB, t', hn⟩ := k1
    obtain ⟨o', ho⟩ := t'.ex
    have sB : Sb B (upd B p' o') := (Sb.refl B).updS hB
    refine hl B0 (upd B p' o') F1 ρ1 σ H1 _ l ρ2 (S1.prot ho hB hn) u2 fun F2 H2 x2 S2 => ?_
    refine hh B0 (upd B p' o') F2 ρ2 σ H2 _ h ρ' S2 u3 fun F3 H3 x3 S3 => ?_
    have ho3 : H3 p' = some o' := S3.bh p' o' upd_same
    cases u4'
    exact fin _ F3 H3 (x1.trans ((x2.trans x3).weak sB)) (S3.weak S.bb sB) (.inr ⟨p', rfl, t'.mono (x2.trans x3).1 fun u e => by rw [ho] at e; cases e; exact ho3⟩)
/-- xs[::-1] of a list -/
def gRev : D → Option Rv
  | .list l => some (.new (.list l.reverse))
  | _ => none
theorem dx_rev {k : Nat} {p1 p3 p4 : Pos} (C : XOk X) (ha : DX X e τ) : DX X (.Subscript e (.Slice none none (some (.UnaryOp .USub (.Constant (.int 1) k p1) p4)) p3) pos) (oneM gRev τ) := by
  obtain ⟨t, pe, h⟩ := ha.ex
  refine ⟨_, pe_revL pe, ?_⟩
  refine one_rd (r := fun x H Q => ∃ a xs, x = .ref a ∧ SqL X.K H a xs ∧ ∀ p, H p = none → Q (.ref p) (upd H p (.lst xs.reverse))) (fun B0 B F ρ σ H x a rv Q S k e q => ?_) h
  unfold gRev at e
  split at e <;> cases e
  obtain ⟨p1, v1, rfl, h1, r1⟩ := k.lst S.fh
  exact ⟨p1, v1, rfl, SqL.of h1, fun p hp => q _ F _ (Ext.refl B F) (S.alloc hp) (rv_list S hp r1.rev)⟩

/-! ### targets that are unpacked -/
def unpM (g : D → M Unit) (d : D) : M Ct := bnd (g d) fun _ => pur .nx
theorem ds_unp {g : D → M Unit} (h : DX X e τ) (hg : DG X tg A g) (hs : swapsWithSole [tg] e pos.line X.env = pure false := by rfl) (hw : swappedStores [tg] e X.env = pure none := by rfl)
    (h1 : (assignEach [tg] X.env).map (·.2) = [assign tg X.env] := by rfl) : DS X (.Assign [tg] e pos) A (bnd (bnd τ keep) (unpM g)) := by
  obtain ⟨t, pe, h⟩ := h.ex
  obtain ⟨tg', pg, hg⟩ := hg.ex
  refine ⟨_, ps_asg pe pg hs hw h1, fun B0 B F ρ σ H E c ρ' S e q => ?_⟩
  obtain ⟨d, ρ1, u1, w1⟩ := bnd_some e
  obtain ⟨u, ρ2, u2, w2⟩ := bnd_some w1
  cases w2
  refine rd_keep h S u1 fun v F1 H1 x1 S1 k1 => ?_
  exact hg B0 B F1 ρ1 σ H1 _ v d u ρ' S1 k1 u2 fun σ' S2 _ k2 => q F1 σ' H1 x1 S2 k2
theorem ds_par3 (i j l : Nat) {x y z : Str} {a b c : Expr} {px py pz pt : Pos} {kt k2 pt2} (C : XOk X) (h : DA X [a, b, c] τd) (hw : swappedStores [.Tuple [.Name x px, .Name y py, .Name z pz] kt pt] (.Tuple [a, b, c] k2 pt2) X.env = pure (some [x, y, z]) := by rfl)
    (hi : X.N[i]? = some x := by rfl) (hj : X.N[j]? = some y := by rfl) (hl : X.N[l]? = some z := by rfl) (hij : i ≠ j := by decide) (hil : i ≠ l := by decide) (hjl : j ≠ l := by decide)
    (hx : X.env.scope.names.lookup x = some .local := by rfl) (hy : X.env.scope.names.lookup y = some .local := by rfl) (hz : X.env.scope.names.lookup z = some .local := by rfl)
    (hs : swapsWithSole [.Tuple [.Name x px, .Name y py, .Name z pz] kt pt] (.Tuple [a, b, c] k2 pt2) pos.line X.env = pure false := by rfl) :
    DS X (.Assign [.Tuple [.Name x px, .Name y py, .Name z pz] kt pt] (.Tuple [a, b, c] k2 pt2) pos) [i, j, l] (bnd τd (setAll [i, j, l])) := by
  obtain ⟨t, pa, h⟩ := h.ex
  refine ⟨_, ps_par3 C.calm C.nd hi hj hl hij hil hjl hx hy hz pa hw hs, fun B0 B F ρ σ H E c ρ' S e q => ?_⟩
  obtain ⟨ds, ρ1, e1, e⟩ := bnd_some e
  refine h B0 B F ρ σ H _ ds ρ1 S e1 fun vs F1 H1 x1 S1 k1 => ?_
  match ds, k1, e with
  | _, .cons (d := d1) (ds := [d2, d3]) a1 (.cons a2 (.cons a3 .nil)), e =>
    simp only [setAll] at e
    split at e
    · rename_i s1 q1
      split at e
      · rename_i s2 q2
        split at e
        · rename_i s3 q3
          cases e
          refine ⟨_, _, _, rfl, q F1 _ H1 x1 (((S1.storeFr q1 a1).storeFr q2 a2).storeFr q3 a3) fun k hk => ?_⟩
          rw [List.getElem?_set_ne fun z => hk (by simp [z]), List.getElem?_set_ne fun z => hk (by simp [z]), List.getElem?_set_ne fun z => hk (by simp [z])]
        · cases e
      · cases e
    · cases e
  | _, .nil, e => simp [setAll] at e
  | _, .cons a1 .nil, e =>
    simp only [setAll] at e
    split at e <;> cases e
  | _, .cons a1 (.cons a2 .nil), e =>
    simp only [setAll] at e
    split at e
    · split at e <;> cases e
    · cases e
  | _, .cons a1 (.cons a2 (.cons a3 (.cons a4 r))), e =>
    simp only [setAll] at e
    split at e
    · split at e
      · split at e <;> cases e
      · cases e
    · cases e
end
end DL
set_option Elab.async false
set_option linter.all false
set_option maxRecDepth 100000
set_option maxHeartbeats 1000000
namespace DL
open PySem PySem.Spec L2

/-! ### running the functions -/
@[irreducible] def Wp {α : Type} (x : Option (α × En)) (Q : α → En → Prop) : Prop := match x with
  | some (a, ρ) => Q a ρ
  | none => False
theorem Wp_some {α : Type} {a : α} {ρ : En} {Q : α → En → Prop} : Wp (some (a, ρ)) Q = Q a ρ := by with_unfolding_all rfl
theorem Wp_none {α : Type} {Q : α → En → Prop} : Wp (none : Option (α × En)) Q = False := by with_unfolding_all rfl
theorem Wp_bnd {α β : Type} {x : M α} {f : α → M β} {ρ : En} {Q : β → En → Prop} : Wp (bnd x f ρ) Q = Wp (x ρ) fun a ρ1 => Wp (f a ρ1) Q := by
  unfold bnd
  cases x ρ with
  | none => with_unfolding_all rfl
  | some p => with_unfolding_all rfl
theorem Wp.mono {α : Type} {x : Option (α × En)} {Q Q' : α → En → Prop} (h : Wp x Q) (i : ∀ a ρ, Q a ρ → Q' a ρ) : Wp x Q' := by
  unfold Wp at *
  split at h
  · exact i _ _ h
  · exact h
theorem Wp.eq {α : Type} {x : Option (α × En)} {Q : α → En → Prop} (h : Wp x Q) : ∃ a ρ, x = some (a, ρ) ∧ Q a ρ := by
  unfold Wp at h
  split at h
  · exact ⟨_, _, rfl, h⟩
  · exact h.elim
theorem Wp.of {α : Type} {x : Option (α × En)} {Q : α → En → Prop} {a : α} {ρ : En} (e : x = some (a, ρ)) (h : Q a ρ) : Wp x Q := by
  rw [e, Wp_some]; exact h
def cont (P : En → Prop) (Q : Ct → En → Prop) : Ct → En → Prop := fun c ρ => match c with
  | .nx => P ρ
  | .ct => P ρ
  | .bk => Q .nx ρ
  | .rt r => Q (.rt r) ρ
theorem Wp_for {g : D → M Unit} {b : M Ct} {Q : Ct → En → Prop} (P : Nat → En → Prop) : ∀ {l : List D} {i : Nat} {ρ : En}, P i ρ →
    (∀ j d ρ, l[j]? = some d → P (i + j) ρ → Wp (g d ρ) fun _ ρ1 => Wp (b ρ1) (cont (P (i + j + 1)) Q)) → (∀ ρ, P (i + l.length) ρ → Q .nx ρ) → Wp (forM g b l ρ) Q
  | [], i, ρ, h0, _, hd => by
    unfold forM
    rw [pur, Wp_some]
    exact hd ρ h0
  | d :: r, i, ρ, h0, hs, hd => by
    unfold forM
    rw [Wp_bnd]
    refine (hs 0 d ρ rfl h0).mono fun _ ρ1 h1 => ?_
    rw [Wp_bnd]
    refine h1.mono fun c ρ2 h2 => ?_
    have again : P (i + 1) ρ2 → Wp (forM g b r ρ2) Q := fun h => Wp_for P (i := i + 1) h (fun j d ρ e p => by
      have := hs (j + 1) d ρ (by simpa using e) (by rw [show i + (j + 1) = i + 1 + j by omega]; exact p)
      rw [show i + (j + 1) + 1 = i + 1 + j + 1 by omega] at this
      exact this) fun ρ p => hd ρ (by rw [List.length_cons, show i + (r.length + 1) = i + 1 + r.length by omega]; exact p)
    cases c with
    | nx => exact again h2
    | ct => exact again h2
    | bk => simp only [cont] at h2; simp only [pur, Wp_some]; exact h2
    | rt r => simp only [cont] at h2; simp only [pur, Wp_some]; exact h2
theorem Wp_for0 {g : D → M Unit} {b : M Ct} {Q : Ct → En → Prop} (P : Nat → En → Prop) {l : List D} {ρ : En} (h0 : P 0 ρ)
    (hs : ∀ j d ρ, l[j]? = some d → P j ρ → Wp (g d ρ) fun _ ρ1 => Wp (b ρ1) (cont (P (j + 1)) Q)) (hd : ∀ ρ, P l.length ρ → Q .nx ρ) : Wp (forM g b l ρ) Q :=
  Wp_for P (i := 0) h0 (fun j d ρ e p => by rw [Nat.zero_add] at *; exact hs j d ρ e p) fun ρ p => by rw [Nat.zero_add] at p; exact hd ρ p
/-- over lo, lo + 1, .. -/
theorem Wp_rng {g : D → M Unit} {b : M Ct} {Q : Ct → En → Prop} (P : Nat → En → Prop) {lo : Int} {n : Nat} {ρ : En} (h0 : P 0 ρ)
    (hs : ∀ j ρ, j < n → P j ρ → Wp (g (.int (lo + j)) ρ) fun _ ρ1 => Wp (b ρ1) (cont (P (j + 1)) Q)) (hd : ∀ ρ, P n ρ → Q .nx ρ) : Wp (forM g b (rangeFrom lo n) ρ) Q :=
  Wp_for0 P h0 (fun j d ρ e p => by
    have hj : j < n := by
      have := (List.getElem?_eq_some_iff.mp e).1
      rw [rangeFrom_len] at this; exact this
    rw [rangeFrom_get _ _ _ _ e]
    exact hs j ρ hj p) fun ρ p => hd ρ (by rw [rangeFrom_len] at p; exact p)
theorem Wp_while {c : M Bool} {b : M Ct} {Q : Ct → En → Prop} (P : En → Prop) (μ : En → Nat) : ∀ {n : Nat} {ρ : En}, P ρ → μ ρ < n →
    (∀ ρ, P ρ → Wp (c ρ) fun k ρ1 => if k = true then Wp (b ρ1) (cont (fun ρ2 => P ρ2 ∧ μ ρ2 < μ ρ) Q) else Q .nx ρ1) → Wp (whileM c b n ρ) Q
  | 0, ρ, _, h, _ => absurd h (Nat.not_lt_zero _)
  | n + 1, ρ, h0, hm, hs => by
    unfold whileM
    rw [Wp_bnd]
    refine (hs ρ h0).mono fun k ρ1 h1 => ?_
    cases k with
    | false =>
      rw [if_neg Bool.false_ne_true] at h1 ⊢
      rw [pur, Wp_some]
      exact h1
    | true =>
      rw [if_pos rfl] at h1 ⊢
      rw [Wp_bnd]
      refine h1.mono fun x ρ2 h2 => ?_
      have again : P ρ2 ∧ μ ρ2 < μ ρ → Wp (whileM c b n ρ2) Q := fun h => Wp_while P μ h.1 (by omega) hs
      cases x with
      | nx => exact again h2
      | ct => exact again h2
      | bk => simp only [cont] at h2; simp only [pur, Wp_some]; exact h2
      | rt r => simp only [cont] at h2; simp only [pur, Wp_some]; exact h2

/-! ### what the functions are when they are given a state -/
section
variable {α β : Type} {ρ : En}
theorem bnd_ap {x : M α} {f : α → M β} : bnd x f ρ = match x ρ with
  | none => none
  | some (a, ρ') => f a ρ' := rfl
theorem pur_ap {a : α} : pur a ρ = some (a, ρ) := rfl
theorem lft_ap {x : Option α} : lft x ρ = match x with
  | none => none
  | some a => some (a, ρ) := rfl
theorem opM_ap {g : D → D → Option Rv} {τ1 τ2 : M Rv} : opM g τ1 τ2 ρ = bnd τ1 (fun r1 => bnd τ2 fun r2 => bnd (seeM r1) fun a => bnd (seeM r2) fun b => lft (g a b)) ρ := rfl
theorem oneM_ap {g : D → Option Rv} {τ : M Rv} : oneM g τ ρ = bnd τ (fun r => bnd (seeM r) fun a => lft (g a)) ρ := rfl
theorem boolM_ap {τ : M Rv} : boolM τ ρ = bnd τ (fun r => match r with
  | .rep (.bool k) => pur k
  | _ => fun _ => none) ρ := rfl
theorem repM_ap {τ : M Rv} : repM τ ρ = bnd τ (fun r => match r with
  | .rep d => pur d
  | _ => fun _ => none) ρ := rfl
theorem truM_ap {τ : M Rv} : truM τ ρ = bnd τ (fun r => bnd (seeM r) fun a => lft (gTruth a)) ρ := rfl
theorem seeM_ap {r : Rv} : seeM r ρ = match see ρ r with
  | none => none
  | some d => some (d, ρ) := rfl
theorem see_rep {d : D} : see ρ (.rep d) = some d := rfl
theorem see_new {d : D} : see ρ (.new d) = some d := rfl
theorem see_bor {i : Nat} : see ρ (.bor i) = match ρ[i]? with
    | some (.fr d) => some d
    | some (.own d) => some d
    | some (.rd d) => some d
    | _ => none := rfl
theorem nameM_ap {i : Nat} : nameM i ρ = match ρ[i]? with
  | some (.fr d) => some (.rep d, ρ)
  | some (.own _) => some (.bor i, ρ)
  | some (.rd _) => some (.bor i, ρ)
  | some (.scr _) => some (.bor i, ρ)
  | _ => none := rfl
theorem cstM_ap {d : D} : cstM d ρ = some (.rep d, ρ) := rfl
theorem keep_rep {d : D} : keep (.rep d) ρ = some (d, ρ) := rfl
theorem keep_new {d : D} : keep (.new d) ρ = some (d, ρ) := rfl
theorem keep_bor {i : Nat} : keep (.bor i) ρ = match ρ[i]? with
    | some (.fr d) => some (d, ρ)
    | some (.own d) => some (d, ρ.set i (.fr d))
    | _ => none := rfl
theorem seqM_ap {c1 c2 : M Ct} : seqM c1 c2 ρ = match c1 ρ with
  | none => none
  | some (.nx, ρ') => c2 ρ'
  | some (c, ρ') => some (c, ρ') := by
  unfold seqM bnd
  cases c1 ρ with
  | none => rfl
  | some p =>
    obtain ⟨a, ρ'⟩ := p
    cases a <;> rfl
theorem asgM_ap {i : Nat} {r : Rv} : asgM i r ρ = match ρ[i]? with
  | none => none
  | some _ => match r with
    | .rep d => some (.nx, ρ.set i (.fr d))
    | .new d => some (.nx, ρ.set i (.own d))
    | .bor j => match keep (.bor j) ρ with
      | none => none
      | some (d, ρ1) => some (.nx, ρ1.set i (.fr d)) := rfl
theorem dispM_ap {f : List D → Rv} {τ : M (List D)} : dispM f τ ρ = bnd τ (fun ds => fun ρ => if ds.length ≤ 16777216 then some (f ds, ρ) else none) ρ := rfl
theorem muM_ap {i : Nat} {g : D → List D → Option (D × D)} {τs : M (List D)} : muM i g τs ρ = match ρ[i]? with
  | some (.own (.list _)) => match τs ρ with
    | some (ds, ρ) => match ρ[i]? with
      | some (.own d) => match g d ds with
        | some (d', r) => some (.rep r, ρ.set i (.own d'))
        | none => none
      | _ => none
    | none => none
  | _ => none := rfl
theorem tgM_ap {i : Nat} {d : D} : tgM i d ρ = match ρ[i]? with
  | none => none
  | some _ => some ((), ρ.set i (.fr d)) := rfl
theorem subM_ap {i : Nat} {τv τi : M Rv} : subM i τv τi ρ = bnd (bnd τv keep) (fun d => fun ρ0 => match ρ0[i]? with
  | some (.own (.list _)) => match τi ρ0 with
    | some (r, ρ) => match see ρ r with
      | some (.int k) => match ρ[i]? with
        | some (.own (.list l)) => match ixN l.length k with
          | some j => some (.nx, ρ.set i (.own (.list (l.set j d))))
          | none => none
        | _ => none
      | _ => none
    | none => none
  | _ => none) ρ := rfl
theorem retM_rep {d : D} : retM (.rep d) ρ = some (.rt (.rep d), ρ) := rfl
theorem retM_new {d : D} : retM (.new d) ρ = some (.rt (.new d), ρ) := rfl
theorem retM_bor {i : Nat} : retM (.bor i) ρ = match ρ[i]? with
    | some (.fr d) => some (.rt (.rep d), ρ)
    | some (.own d) => some (.rt (.new d), ρ.set i .un)
    | _ => none := rfl
theorem chainM_ap {g g' : D → D → Option Rv} {τ1 τ2 τ3 : M Rv} : chainM g g' τ1 τ2 τ3 ρ = bnd (repM τ1) (fun a => bnd (repM τ2) fun b => bnd (lft (boolOf (g a b))) fun k => if k = true then bnd τ3 fun r => bnd (seeM r) fun c => lft (boolOf (g' b c)) else pur false) ρ := rfl
theorem callM_ap {φ : Fn} {τs : M (List Ag)} : callM φ τs ρ = bnd τs (fun as => fun ρ => match insR as ρ with
  | some ins => match φ ins with
    | some (.rep d, _) => some (.rep d, ρ)
    | some (.new d, _) => some (.new d, ρ)
    | _ => none
  | none => none) ρ := rfl
theorem callIO_ap {i : Nat} {φ : Fn} {τs : M (List Ag)} : callIO i φ τs ρ = match ρ[i]? with
  | some (.own _) => match τs ρ with
    | some (as, ρ) => match ρ[i]? with
      | some (.own d) => if hasSl i as then none else match insR as ρ with
        | some ins => match φ (.own d :: ins) with
          | some (.rep r, .own d' :: _) => some (.rep r, ρ.set i (.own d'))
          | some (.new r, .own d' :: _) => some (.new r, ρ.set i (.own d'))
          | _ => none
        | none => none
      | _ => none
    | none => none
  | _ => none := rfl
theorem agM_f {r : Rv} : agM false r = bnd (keep r) fun d => pur (.val d) := rfl
theorem agM_t {i : Nat} : agM true (.bor i) = pur (.sl i) := rfl
theorem lenScrM_ap {i : Nat} : lenScrM i ρ = match ρ[i]? with
  | some (.scr l) => some (.rep (.int l.length), ρ)
  | _ => none := rfl
theorem ixScrM_ap {i : Nat} {τ : M Rv} : ixScrM i τ ρ = match ρ[i]? with
  | some (.scr l) => match τ ρ with
    | some (.rep (.int j), ρ) => match L2.atI l j with
      | some n => some (.rep (.int n), ρ)
      | none => none
    | _ => none
  | _ => none := rfl
theorem rmM_ap {T : String} {g : D → D → Option Rv} {τ1 τ2 : M Rv} : rmM T g τ1 τ2 ρ = bnd τ1 (fun r1 => bnd (seeM r1) fun a0 => if isTy T a0 = true then bnd τ2 fun r2 => bnd (seeM r1) fun a => bnd (seeM r2) fun b => lft (g a b) else fun _ => none) ρ := rfl
theorem fnM_ap {A : List Nat} {n : Nat} {body : M Ct} {ins : En} : fnM A n body ins = endM A ins (body (ins ++ List.replicate (n - ins.length) .un)) := rfl
theorem seqOf_list {l : List D} : seqOf (.list l) = some l := rfl
theorem seqOf_tup {l : List D} : seqOf (.tuple l) = some l := rfl
theorem eqD_int {i j : Int} : eqD (.int i) (.int j) = some (decide (i = j)) := rfl
theorem Wp_seq {c1 c2 : M Ct} {Q : Ct → En → Prop} : Wp (seqM c1 c2 ρ) Q = Wp (c1 ρ) (fun c ρ1 => match c with
  | .nx => Wp (c2 ρ1) Q
  | c => Q c ρ1) := by
  unfold seqM
  rw [Wp_bnd]
  congr 1
  funext c ρ1
  cases c <;> with_unfolding_all rfl
/-- a statement whose end is reckoned -/
theorem Wp_st {c1 c2 : M Ct} {Q : Ct → En → Prop} {ρ1 : En} (e : c1 ρ = some (.nx, ρ1)) (h : Wp (c2 ρ1) Q) : Wp (seqM c1 c2 ρ) Q := by
  rw [Wp_seq, e, Wp_some]; exact h
theorem Wp_sts {c1 c2 : M Ct} {Q : Ct → En → Prop} (R : En → Prop) (h1 : Wp (c1 ρ) fun c ρ1 => c = .nx ∧ R ρ1) (h : ∀ ρ1, R ρ1 → Wp (c2 ρ1) Q) : Wp (seqM c1 c2 ρ) Q := by
  rw [Wp_seq]
  exact h1.mono fun c ρ1 ⟨e, r⟩ => by subst e; exact h ρ1 r
theorem Wp_bndE {x : M α} {f : α → M β} {Q : β → En → Prop} {a : α} {ρ1 : En} (e : x ρ = some (a, ρ1)) (h : Wp (f a ρ1) Q) : Wp (bnd x f ρ) Q := by
  rw [Wp_bnd, e, Wp_some]; exact h
end
/-- a def from its body -/
theorem fn_of_wp {A : List Nat} {n : Nat} {body : M Ct} {ins : En} {r : Rv} {o : En} (h : Wp (body (ins ++ List.replicate (n - ins.length) .un)) fun c ρ => endM A ins (some (c, ρ)) = some (r, o)) : fnM A n body ins = some (r, o) := by
  obtain ⟨c, ρ, e, q⟩ := h.eq
  rw [fnM_ap, e]; exact q
theorem fn_ex {A : List Nat} {n : Nat} {body : M Ct} {ins : En} {Q : Rv → En → Prop} (h : Wp (body (ins ++ List.replicate (n - ins.length) .un)) fun c ρ => ∃ r o, endM A ins (some (c, ρ)) = some (r, o) ∧ Q r o) : ∃ r o, fnM A n body ins = some (r, o) ∧ Q r o := by
  obtain ⟨c, ρ, e, r, o, q, z⟩ := h.eq
  exact ⟨r, o, by rw [fnM_ap, e]; exact q, z⟩

/-! ### the draws' helpers -/
abbrev ilist (L : List Int) : D := .list (L.map PyData.int)
def t_take : M Ct :=
  (bnd (bnd (boolM (opM (gCI fun i j => decide (j < i)) (oneM gLen (nameM 0)) (cstM (.int 0)))) fun b => if b = true then (opM gMod (oneM gInt (muM 0 gPop (fun ρ => some ([], ρ)))) (nameM 1)) else (cstM (.int 0))) retM)
def φ_take : Fn := fnM [] 2 t_take
theorem take_ok (L : List Int) (m : Int) (hm : 0 < m) : ∃ (r : Int) (L' : List Int), 0 ≤ r ∧ r < m ∧ φ_take [.own (ilist L), .fr (.int m)] = some (.rep (.int r), [.own (ilist L'), .un]) := by
  rcases List.eq_nil_or_concat L with rfl | ⟨L', x, rfl⟩
  · exact ⟨0, [], by omega, hm, rfl⟩
  · refine ⟨x.fmod m, L', ?_, ?_, ?_⟩
    · rw [Int.fmod_eq_emod_of_nonneg _ (by omega)]; exact Int.emod_nonneg _ (by omega)
    · rw [Int.fmod_eq_emod_of_nonneg _ (by omega)]; exact Int.emod_lt_of_pos _ hm
    · have h1 : (m != 0) = true := by simp; omega
      simp [φ_take, fnM, t_take, bnd, opM, boolM, oneM, nameM, seeM, see, gLen, lft, gCI, gI, cstM, muM, gPop, gInt, gMod, h1, retM, endM, outs]
end DL
set_option Elab.async false
set_option linter.all false
set_option maxRecDepth 100000
set_option maxHeartbeats 1000000


namespace DL
open PySem PySem.Spec L2
def t_deck : M Ct :=
  (seqM (bnd (dispM (fun ds => .new (.list ds)) (fun ρ => some ([], ρ))) (asgM 3)) (seqM (bnd (opM gAdd (cstM (.int 29)) (lenScrM 0)) (asgM 4)) (seqM (bnd (bnd (bnd (bnd (nameM 1) keep) fun d => bnd (fun ρ => some ([], ρ)) fun ds => pur (d :: ds)) fun ds => lft (rng1 ds)) (forM (tgM 5) (seqM (bnd (bnd (boolM (opM (gCI fun i j => decide (i < j)) (nameM 5) (lenScrM 0))) fun b => if b = true then (oneM gInt (ixScrM 0 (nameM 5))) else (cstM (.int 0))) (asgM 6)) (seqM (bnd (opM gMul (oneM gAbs (nameM 6)) (oneM gInt (opM (gCI fun i j => decide (j ≤ i)) (oneM gAbs (nameM 6)) (opM gPow (cstM (.int 10)) (cstM (.int 18)))))) (asgM 7)) (seqM (bnd (opM gMod (oneM gInt (opM gAdd (opM gAdd (opM gAdd (opM gMul (nameM 4) (cstM (.int 48271))) (opM gMul (cstM (.int 3)) (opM gMod (oneM gInt (oneM gAbs (nameM 6))) (cstM (.int 2147483587))))) (oneM gInt (opM (gCI fun i j => decide (i < j)) (nameM 6) (cstM (.int 0))))) (nameM 5))) (cstM (.int 2147483647))) (asgM 4)) (bnd (bnd (bnd (bnd (nameM 2) keep) fun d => bnd (fun ρ => some ([], ρ)) fun ds => pur (d :: ds)) fun ds => lft (rng1 ds)) (forM (tgM 8) (seqM (bnd (opM gMod (oneM gInt (opM gAdd (opM gAdd (opM gMul (nameM 4) (cstM (.int 69621))) (nameM 8)) (cstM (.int 1)))) (cstM (.int 2147483629))) (asgM 4)) (seqM (bnd (muM 3 gAppend (bnd (bnd (opM gMod (oneM gInt (opM gIx (dispM (fun ds => .new (.list ds)) (bnd (bnd (opM gDiv (nameM 4) (cstM (.int 7))) keep) fun d => bnd (bnd (bnd (nameM 7) keep) fun d => bnd (fun ρ => some ([], ρ)) fun ds => pur (d :: ds)) fun ds => pur (d :: ds))) (oneM gInt (opM (gCI fun i j => decide (j < i)) (nameM 7) (cstM (.int 0)))))) (cstM (.int 1000003))) keep) fun d => bnd (fun ρ => some ([], ρ)) fun ds => pur (d :: ds))) fun _ => pur .nx) (bnd (opM gDiv (nameM 7) (cstM (.int 1000003))) (asgM 7))))))))))) (seqM (bnd (muM 3 gReverse (fun ρ => some ([], ρ))) fun _ => pur .nx) (bnd (nameM 3) retM)))))
def φ_deck : Fn := fnM ([3] ++ ([4] ++ (([5] ++ ([6] ++ ([7] ++ ([4] ++ ([8] ++ ([4] ++ ([] ++ [7]))))))) ++ ([] ++ [])))) 9 t_deck
theorem atI_two (a b : D) (r : Int) : L2.atI [a, b] (if decide (0 < r) = true then 1 else 0) = some (if 0 < r then b else a) := by
  by_cases h : 0 < r
  · simp [h, L2.atI, ixN]
  · simp [h, L2.atI, ixN]
theorem ite_int (c : Prop) [Decidable c] (a b : Int) : (if c then (PyData.int a : D) else PyData.int b) = PyData.int (if c then a else b) := by
  split <;> rfl
theorem bit_small (b : Bool) : decide ((if b = true then (1 : Int) else 0).natAbs < 18446744073709551616) = true := by
  cases b <;> decide
theorem map_snoc (L : List Int) (x : Int) : L.map PyData.int ++ [PyData.int x] = (L ++ [x]).map PyData.int := by simp
theorem deck_ok (ns : List Int) (c e : Nat) (h : c * e ≤ 1000000) (hc : c ≤ 1000) (he : e ≤ 1000) : ∃ L : List Int, φ_deck [.scr ns, .fr (.int c), .fr (.int e)] = some (.new (ilist L), [.un, .un, .un]) := by
  have hrc : okR (c : Int) = true := okR_of (by omega) (by omega)
  have hre : okR (e : Int) = true := okR_of (by omega) (by omega)
  have main : Wp (t_deck [.scr ns, .fr (.int c), .fr (.int e), .un, .un, .un, .un, .un, .un]) fun ct ρ => ∃ (L : List Int), ct = .rt (.new (ilist L)) := by
    unfold t_deck
    refine Wp_st (ρ1 := [.scr ns, .fr (.int c), .fr (.int e), .own (ilist []), .un, .un, .un, .un, .un]) (by simp -implicitDefEqProofs only [bnd_ap, opM_ap, oneM_ap, boolM_ap, truM_ap, seeM_ap, lft_ap, nameM_ap, cstM_ap, pur_ap, keep_rep, keep_new, keep_bor, see_rep, see_new, see_bor, seqM_ap, asgM_ap, dispM_ap, muM_ap, tgM_ap, subM_ap, retM_rep, retM_new, retM_bor, chainM_ap, repM_ap, rmM_ap, isTy, callM_ap, callIO_ap, agM_f, agM_t, insR, hasSl, lenScrM_ap, ixScrM_ap, setAll, outs, endM, fnM_ap, gAdd, DL.gSub, gI, gCI, gMul, gMod, gDiv, gPow, gLen, gInt, gAbs, gNeg, gIs, gEq, gIx, isNone, boolOf, gTruth, gAppend, gPop, gPopAt, gReverse, gExtend, gListOf, gTupOf, seqOf_list, seqOf_tup, rng1, rng2, gRgL, gRgL2, eqD_int, List.getElem?_cons_zero, List.getElem?_cons_succ, List.set_cons_zero, List.set_cons_succ, List.length_cons, List.length_nil, List.nil_append, List.cons_append, List.append_nil, List.replicate_zero, List.replicate_succ, List.replicate_one, if_true, if_false, Bool.false_eq_true, reduceIte, Nat.reduceAdd, Nat.reduceSub, List.contains_cons, List.contains_nil, Bool.or_false, Nat.reduceBEq, Bool.false_or, Bool.true_or, Bool.or_true, Bool.and_true, Bool.true_and]; rfl) ?_
    refine Wp_st (ρ1 := [.scr ns, .fr (.int c), .fr (.int e), .own (ilist []), .fr (.int (29 + ns.length)), .un, .un, .un, .un]) (by simp -implicitDefEqProofs only [bnd_ap, opM_ap, oneM_ap, boolM_ap, truM_ap, seeM_ap, lft_ap, nameM_ap, cstM_ap, pur_ap, keep_rep, keep_new, keep_bor, see_rep, see_new, see_bor, seqM_ap, asgM_ap, dispM_ap, muM_ap, tgM_ap, subM_ap, retM_rep, retM_new, retM_bor, chainM_ap, repM_ap, rmM_ap, isTy, callM_ap, callIO_ap, agM_f, agM_t, insR, hasSl, lenScrM_ap, ixScrM_ap, setAll, outs, endM, fnM_ap, gAdd, DL.gSub, gI, gCI, gMul, gMod, gDiv, gPow, gLen, gInt, gAbs, gNeg, gIs, gEq, gIx, isNone, boolOf, gTruth, gAppend, gPop, gPopAt, gReverse, gExtend, gListOf, gTupOf, seqOf_list, seqOf_tup, rng1, rng2, gRgL, gRgL2, eqD_int, List.getElem?_cons_zero, List.getElem?_cons_succ, List.set_cons_zero, List.set_cons_succ, List.length_cons, List.length_nil, List.nil_append, List.cons_append, List.append_nil, List.replicate_zero, List.replicate_succ, List.replicate_one, if_true, if_false, Bool.false_eq_true, reduceIte, Nat.reduceAdd, Nat.reduceSub, List.contains_cons, List.contains_nil, Bool.or_false, Nat.reduceBEq, Bool.false_or, Bool.true_or, Bool.or_true, Bool.and_true, Bool.true_and]) ?_
    refine Wp_sts (fun ρ => ∃ (L : List Int) (s4 s5 s6 s7 s8 : Sl), ρ = [.scr ns, .fr (.int c), .fr (.int e), .own (ilist L), s4, s5, s6, s7, s8]) ?_ ?_
    · refine Wp_bndE (a := rangeFrom 0 c) (ρ1 := [.scr ns, .fr (.int c), .fr (.int e), .own (ilist []), .fr (.int (29 + ns.length)), .un, .un, .un, .un]) (by simp -implicitDefEqProofs only [bnd_ap, opM_ap, oneM_ap, boolM_ap, truM_ap, seeM_ap, lft_ap, nameM_ap, cstM_ap, pur_ap, keep_rep, keep_new, keep_bor, see_rep, see_new, see_bor, seqM_ap, asgM_ap, dispM_ap, muM_ap, tgM_ap, subM_ap, retM_rep, retM_new, retM_bor, chainM_ap, repM_ap, rmM_ap, isTy, callM_ap, callIO_ap, agM_f, agM_t, insR, hasSl, lenScrM_ap, ixScrM_ap, setAll, outs, endM, fnM_ap, gAdd, DL.gSub, gI, gCI, gMul, gMod, gDiv, gPow, gLen, gInt, gAbs, gNeg, gIs, gEq, gIx, isNone, boolOf, gTruth, gAppend, gPop, gPopAt, gReverse, gExtend, gListOf, gTupOf, seqOf_list, seqOf_tup, rng1, rng2, gRgL, gRgL2, eqD_int, List.getElem?_cons_zero, List.getElem?_cons_succ, List.set_cons_zero, List.set_cons_succ, List.length_cons, List.length_nil, List.nil_append, List.cons_append, List.append_nil, List.replicate_zero, List.replicate_succ, List.replicate_one, if_true, if_false, Bool.false_eq_true, reduceIte, Nat.reduceAdd, Nat.reduceSub, List.contains_cons, List.contains_nil, Bool.or_false, Nat.reduceBEq, Bool.false_or, Bool.true_or, Bool.or_true, Bool.and_true, Bool.true_and, hrc]; rfl) ?_
      refine Wp_rng (fun i ρ => ∃ (L : List Int) (sd : Int) (s5 s6 s7 s8 : Sl), ρ = [.scr ns, .fr (.int c), .fr (.int e), .own (ilist L), .fr (.int sd), s5, s6, s7, s8] ∧ L.length ≤ i * e) ⟨[], _, _, _, _, _, rfl, by simp⟩ ?_ ?_
      · rintro j ρ hj ⟨L, sd, s5, s6, s7, s8, rfl, hL⟩
        refine Wp.of (a := ()) (ρ := [.scr ns, .fr (.int c), .fr (.int e), .own (ilist L), .fr (.int sd), .fr (.int (0 + j)), s6, s7, s8]) rfl ?_
        refine Wp_sts (fun ρ => ∃ cell : Int, ρ = [.scr ns, .fr (.int c), .fr (.int e), .own (ilist L), .fr (.int sd), .fr (.int (0 + j)), .fr (.int cell), s7, s8]) ?_ ?_
        · by_cases hjl : (0 + (j : Int)) < ns.length
          · have hat : L2.atI ns (0 + (j : Int)) = some ns[j] := by
              rw [Int.zero_add]; exact atI_nat (List.getElem?_eq_getElem (by omega))
            exact Wp.of (by simp -implicitDefEqProofs only [bnd_ap, opM_ap, oneM_ap, boolM_ap, truM_ap, seeM_ap, lft_ap, nameM_ap, cstM_ap, pur_ap, keep_rep, keep_new, keep_bor, see_rep, see_new, see_bor, seqM_ap, asgM_ap, dispM_ap, muM_ap, tgM_ap, subM_ap, retM_rep, retM_new, retM_bor, chainM_ap, repM_ap, rmM_ap, isTy, callM_ap, callIO_ap, agM_f, agM_t, insR, hasSl, lenScrM_ap, ixScrM_ap, setAll, outs, endM, fnM_ap, gAdd, DL.gSub, gI, gCI, gMul, gMod, gDiv, gPow, gLen, gInt, gAbs, gNeg, gIs, gEq, gIx, isNone, boolOf, gTruth, gAppend, gPop, gPopAt, gReverse, gExtend, gListOf, gTupOf, seqOf_list, seqOf_tup, rng1, rng2, gRgL, gRgL2, eqD_int, List.getElem?_cons_zero, List.getElem?_cons_succ, List.set_cons_zero, List.set_cons_succ, List.length_cons, List.length_nil, List.nil_append, List.cons_append, List.append_nil, List.replicate_zero, List.replicate_succ, List.replicate_one, if_true, if_false, Bool.false_eq_true, reduceIte, Nat.reduceAdd, Nat.reduceSub, List.contains_cons, List.contains_nil, Bool.or_false, Nat.reduceBEq, Bool.false_or, Bool.true_or, Bool.or_true, Bool.and_true, Bool.true_and, decide_eq_true hjl, hat]; rfl) ⟨rfl, _, rfl⟩
          · exact Wp.of (by simp -implicitDefEqProofs only [bnd_ap, opM_ap, oneM_ap, boolM_ap, truM_ap, seeM_ap, lft_ap, nameM_ap, cstM_ap, pur_ap, keep_rep, keep_new, keep_bor, see_rep, see_new, see_bor, seqM_ap, asgM_ap, dispM_ap, muM_ap, tgM_ap, subM_ap, retM_rep, retM_new, retM_bor, chainM_ap, repM_ap, rmM_ap, isTy, callM_ap, callIO_ap, agM_f, agM_t, insR, hasSl, lenScrM_ap, ixScrM_ap, setAll, outs, endM, fnM_ap, gAdd, DL.gSub, gI, gCI, gMul, gMod, gDiv, gPow, gLen, gInt, gAbs, gNeg, gIs, gEq, gIx, isNone, boolOf, gTruth, gAppend, gPop, gPopAt, gReverse, gExtend, gListOf, gTupOf, seqOf_list, seqOf_tup, rng1, rng2, gRgL, gRgL2, eqD_int, List.getElem?_cons_zero, List.getElem?_cons_succ, List.set_cons_zero, List.set_cons_succ, List.length_cons, List.length_nil, List.nil_append, List.cons_append, List.append_nil, List.replicate_zero, List.replicate_succ, List.replicate_one, if_true, if_false, Bool.false_eq_true, reduceIte, Nat.reduceAdd, Nat.reduceSub, List.contains_cons, List.contains_nil, Bool.or_false, Nat.reduceBEq, Bool.false_or, Bool.true_or, Bool.or_true, Bool.and_true, Bool.true_and, decide_eq_false hjl]; rfl) ⟨rfl, _, rfl⟩
        rintro ρ ⟨cell, rfl⟩
        refine Wp_sts (fun ρ => ∃ rest : Int, ρ = [.scr ns, .fr (.int c), .fr (.int e), .own (ilist L), .fr (.int sd), .fr (.int (0 + j)), .fr (.int cell), .fr (.int rest), s8]) ?_ ?_
        · exact Wp.of (by simp -implicitDefEqProofs only [bnd_ap, opM_ap, oneM_ap, boolM_ap, truM_ap, seeM_ap, lft_ap, nameM_ap, cstM_ap, pur_ap, keep_rep, keep_new, keep_bor, see_rep, see_new, see_bor, seqM_ap, asgM_ap, dispM_ap, muM_ap, tgM_ap, subM_ap, retM_rep, retM_new, retM_bor, chainM_ap, repM_ap, rmM_ap, isTy, callM_ap, callIO_ap, agM_f, agM_t, insR, hasSl, lenScrM_ap, ixScrM_ap, setAll, outs, endM, fnM_ap, gAdd, DL.gSub, gI, gCI, gMul, gMod, gDiv, gPow, gLen, gInt, gAbs, gNeg, gIs, gEq, gIx, isNone, boolOf, gTruth, gAppend, gPop, gPopAt, gReverse, gExtend, gListOf, gTupOf, seqOf_list, seqOf_tup, rng1, rng2, gRgL, gRgL2, eqD_int, List.getElem?_cons_zero, List.getElem?_cons_succ, List.set_cons_zero, List.set_cons_succ, List.length_cons, List.length_nil, List.nil_append, List.cons_append, List.append_nil, List.replicate_zero, List.replicate_succ, List.replicate_one, if_true, if_false, Bool.false_eq_true, reduceIte, Nat.reduceAdd, Nat.reduceSub, List.contains_cons, List.contains_nil, Bool.or_false, Nat.reduceBEq, Bool.false_or, Bool.true_or, Bool.or_true, Bool.and_true, Bool.true_and, bit_small, show (decide ((0 : Int) ≤ 18) && decide ((18 : Int) ≤ 1000000) && decide ((10 : Int).natAbs < 18446744073709551616)) = true from by decide]; rfl) ⟨rfl, _, rfl⟩
        rintro ρ ⟨rest, rfl⟩
        refine Wp_sts (fun ρ => ∃ sd : Int, ρ = [.scr ns, .fr (.int c), .fr (.int e), .own (ilist L), .fr (.int sd), .fr (.int (0 + j)), .fr (.int cell), .fr (.int rest), s8]) ?_ ?_
        · have hm1 : (decide (sd.natAbs < 18446744073709551616) || decide ((48271 : Int).natAbs < 18446744073709551616) || decide (sd.natAbs.log2 + (48271 : Int).natAbs.log2 < 1000000)) = true := by
            rw [show decide ((48271 : Int).natAbs < 18446744073709551616) = true from by decide]; simp
          have hm2 : ∀ x : Int, (decide ((3 : Int).natAbs < 18446744073709551616) || decide (x.natAbs < 18446744073709551616) || decide ((3 : Int).natAbs.log2 + x.natAbs.log2 < 1000000)) = true := fun x => by
            rw [show decide ((3 : Int).natAbs < 18446744073709551616) = true from by decide]; simp
          exact Wp.of (by simp -implicitDefEqProofs only [bnd_ap, opM_ap, oneM_ap, boolM_ap, truM_ap, seeM_ap, lft_ap, nameM_ap, cstM_ap, pur_ap, keep_rep, keep_new, keep_bor, see_rep, see_new, see_bor, seqM_ap, asgM_ap, dispM_ap, muM_ap, tgM_ap, subM_ap, retM_rep, retM_new, retM_bor, chainM_ap, repM_ap, rmM_ap, isTy, callM_ap, callIO_ap, agM_f, agM_t, insR, hasSl, lenScrM_ap, ixScrM_ap, setAll, outs, endM, fnM_ap, gAdd, DL.gSub, gI, gCI, gMul, gMod, gDiv, gPow, gLen, gInt, gAbs, gNeg, gIs, gEq, gIx, isNone, boolOf, gTruth, gAppend, gPop, gPopAt, gReverse, gExtend, gListOf, gTupOf, seqOf_list, seqOf_tup, rng1, rng2, gRgL, gRgL2, eqD_int, List.getElem?_cons_zero, List.getElem?_cons_succ, List.set_cons_zero, List.set_cons_succ, List.length_cons, List.length_nil, List.nil_append, List.cons_append, List.append_nil, List.replicate_zero, List.replicate_succ, List.replicate_one, if_true, if_false, Bool.false_eq_true, reduceIte, Nat.reduceAdd, Nat.reduceSub, List.contains_cons, List.contains_nil, Bool.or_false, Nat.reduceBEq, Bool.false_or, Bool.true_or, Bool.or_true, Bool.and_true, Bool.true_and, hm1, hm2, show ((2147483587 : Int) != 0) = true from by decide, show ((2147483647 : Int) != 0) = true from by decide]; rfl) ⟨rfl, _, rfl⟩
        rintro ρ ⟨sd2, rfl⟩
        -- the inner loop
        refine Wp_bndE (a := rangeFrom 0 e) (ρ1 := [.scr ns, .fr (.int c), .fr (.int e), .own (ilist L), .fr (.int sd2), .fr (.int (0 + j)), .fr (.int cell), .fr (.int rest), s8]) (by simp -implicitDefEqProofs only [bnd_ap, opM_ap, oneM_ap, boolM_ap, truM_ap, seeM_ap, lft_ap, nameM_ap, cstM_ap, pur_ap, keep_rep, keep_new, keep_bor, see_rep, see_new, see_bor, seqM_ap, asgM_ap, dispM_ap, muM_ap, tgM_ap, subM_ap, retM_rep, retM_new, retM_bor, chainM_ap, repM_ap, rmM_ap, isTy, callM_ap, callIO_ap, agM_f, agM_t, insR, hasSl, lenScrM_ap, ixScrM_ap, setAll, outs, endM, fnM_ap, gAdd, DL.gSub, gI, gCI, gMul, gMod, gDiv, gPow, gLen, gInt, gAbs, gNeg, gIs, gEq, gIx, isNone, boolOf, gTruth, gAppend, gPop, gPopAt, gReverse, gExtend, gListOf, gTupOf, seqOf_list, seqOf_tup, rng1, rng2, gRgL, gRgL2, eqD_int, List.getElem?_cons_zero, List.getElem?_cons_succ, List.set_cons_zero, List.set_cons_succ, List.length_cons, List.length_nil, List.nil_append, List.cons_append, List.append_nil, List.replicate_zero, List.replicate_succ, List.replicate_one, if_true, if_false, Bool.false_eq_true, reduceIte, Nat.reduceAdd, Nat.reduceSub, List.contains_cons, List.contains_nil, Bool.or_false, Nat.reduceBEq, Bool.false_or, Bool.true_or, Bool.or_true, Bool.and_true, Bool.true_and, hre]; rfl) ?_
        refine Wp_rng (fun i ρ => ∃ (L' : List Int) (sd rest : Int) (s8 : Sl), ρ = [.scr ns, .fr (.int c), .fr (.int e), .own (ilist L'), .fr (.int sd), .fr (.int (0 + j)), .fr (.int cell), .fr (.int rest), s8] ∧ L'.length ≤ j * e + i) ⟨L, _, _, _, rfl, hL⟩ ?_ ?_
        · rintro i ρ hi ⟨L', sd, rest, s8, rfl, hL'⟩
          refine Wp.of (a := ()) (ρ := [.scr ns, .fr (.int c), .fr (.int e), .own (ilist L'), .fr (.int sd), .fr (.int (0 + j)), .fr (.int cell), .fr (.int rest), .fr (.int (0 + i))]) rfl ?_
          refine Wp_sts (fun ρ => ∃ sd : Int, ρ = [.scr ns, .fr (.int c), .fr (.int e), .own (ilist L'), .fr (.int sd), .fr (.int (0 + j)), .fr (.int cell), .fr (.int rest), .fr (.int (0 + i))]) ?_ ?_
          · have hm1 : (decide (sd.natAbs < 18446744073709551616) || decide ((69621 : Int).natAbs < 18446744073709551616) || decide (sd.natAbs.log2 + (69621 : Int).natAbs.log2 < 1000000)) = true := by
              rw [show decide ((69621 : Int).natAbs < 18446744073709551616) = true from by decide]; simp
            exact Wp.of (by simp -implicitDefEqProofs only [bnd_ap, opM_ap, oneM_ap, boolM_ap, truM_ap, seeM_ap, lft_ap, nameM_ap, cstM_ap, pur_ap, keep_rep, keep_new, keep_bor, see_rep, see_new, see_bor, seqM_ap, asgM_ap, dispM_ap, muM_ap, tgM_ap, subM_ap, retM_rep, retM_new, retM_bor, chainM_ap, repM_ap, rmM_ap, isTy, callM_ap, callIO_ap, agM_f, agM_t, insR, hasSl, lenScrM_ap, ixScrM_ap, setAll, outs, endM, fnM_ap, gAdd, DL.gSub, gI, gCI, gMul, gMod, gDiv, gPow, gLen, gInt, gAbs, gNeg, gIs, gEq, gIx, isNone, boolOf, gTruth, gAppend, gPop, gPopAt, gReverse, gExtend, gListOf, gTupOf, seqOf_list, seqOf_tup, rng1, rng2, gRgL, gRgL2, eqD_int, List.getElem?_cons_zero, List.getElem?_cons_succ, List.set_cons_zero, List.set_cons_succ, List.length_cons, List.length_nil, List.nil_append, List.cons_append, List.append_nil, List.replicate_zero, List.replicate_succ, List.replicate_one, if_true, if_false, Bool.false_eq_true, reduceIte, Nat.reduceAdd, Nat.reduceSub, List.contains_cons, List.contains_nil, Bool.or_false, Nat.reduceBEq, Bool.false_or, Bool.true_or, Bool.or_true, Bool.and_true, Bool.true_and, hm1, show ((2147483629 : Int) != 0) = true from by decide]; rfl) ⟨rfl, _, rfl⟩
          rintro ρ ⟨sd3, rfl⟩
          have hlen : (L'.map PyData.int).length < 16777216 := by
            rw [List.length_map]
            have : j * e ≤ (c - 1) * e := Nat.mul_le_mul_right _ (by omega)
            have : (c - 1) * e + e = c * e := by
              obtain ⟨k, rfl⟩ : ∃ k, c = k + 1 := ⟨c - 1, by omega⟩
              rw [Nat.add_sub_cancel, Nat.succ_mul]
            omega
          refine Wp_sts (fun ρ => ∃ x : Int, ρ = [.scr ns, .fr (.int c), .fr (.int e), .own (ilist (L' ++ [x])), .fr (.int sd3), .fr (.int (0 + j)), .fr (.int cell), .fr (.int rest), .fr (.int (0 + i))]) ?_ ?_
          · exact Wp.of (by simp -implicitDefEqProofs only [bnd_ap, opM_ap, oneM_ap, boolM_ap, truM_ap, seeM_ap, lft_ap, nameM_ap, cstM_ap, pur_ap, keep_rep, keep_new, keep_bor, see_rep, see_new, see_bor, seqM_ap, asgM_ap, dispM_ap, muM_ap, tgM_ap, subM_ap, retM_rep, retM_new, retM_bor, chainM_ap, repM_ap, rmM_ap, isTy, callM_ap, callIO_ap, agM_f, agM_t, insR, hasSl, lenScrM_ap, ixScrM_ap, setAll, outs, endM, fnM_ap, gAdd, DL.gSub, gI, gCI, gMul, gMod, gDiv, gPow, gLen, gInt, gAbs, gNeg, gIs, gEq, gIx, isNone, boolOf, gTruth, gAppend, gPop, gPopAt, gReverse, gExtend, gListOf, gTupOf, seqOf_list, seqOf_tup, rng1, rng2, gRgL, gRgL2, eqD_int, List.getElem?_cons_zero, List.getElem?_cons_succ, List.set_cons_zero, List.set_cons_succ, List.length_cons, List.length_nil, List.nil_append, List.cons_append, List.append_nil, List.replicate_zero, List.replicate_succ, List.replicate_one, if_true, if_false, Bool.false_eq_true, reduceIte, Nat.reduceAdd, Nat.reduceSub, List.contains_cons, List.contains_nil, Bool.or_false, Nat.reduceBEq, Bool.false_or, Bool.true_or, Bool.or_true, Bool.and_true, Bool.true_and, hlen, show ((7 : Int) != 0 && decide ((7 : Int).natAbs < 1073741824)) = true from by decide, show ((1000003 : Int) != 0) = true from by decide, atI_two, show ((0 + 1 + 1 : Nat) ≤ 16777216) = True from by simp, ite_int, map_snoc]; rfl) ⟨rfl, _, rfl⟩
          rintro ρ ⟨x, rfl⟩
          exact Wp.of (a := .nx) (by simp -implicitDefEqProofs only [bnd_ap, opM_ap, oneM_ap, boolM_ap, truM_ap, seeM_ap, lft_ap, nameM_ap, cstM_ap, pur_ap, keep_rep, keep_new, keep_bor, see_rep, see_new, see_bor, seqM_ap, asgM_ap, dispM_ap, muM_ap, tgM_ap, subM_ap, retM_rep, retM_new, retM_bor, chainM_ap, repM_ap, rmM_ap, isTy, callM_ap, callIO_ap, agM_f, agM_t, insR, hasSl, lenScrM_ap, ixScrM_ap, setAll, outs, endM, fnM_ap, gAdd, DL.gSub, gI, gCI, gMul, gMod, gDiv, gPow, gLen, gInt, gAbs, gNeg, gIs, gEq, gIx, isNone, boolOf, gTruth, gAppend, gPop, gPopAt, gReverse, gExtend, gListOf, gTupOf, seqOf_list, seqOf_tup, rng1, rng2, gRgL, gRgL2, eqD_int, List.getElem?_cons_zero, List.getElem?_cons_succ, List.set_cons_zero, List.set_cons_succ, List.length_cons, List.length_nil, List.nil_append, List.cons_append, List.append_nil, List.replicate_zero, List.replicate_succ, List.replicate_one, if_true, if_false, Bool.false_eq_true, reduceIte, Nat.reduceAdd, Nat.reduceSub, List.contains_cons, List.contains_nil, Bool.or_false, Nat.reduceBEq, Bool.false_or, Bool.true_or, Bool.or_true, Bool.and_true, Bool.true_and, show ((1000003 : Int) != 0 && decide ((1000003 : Int).natAbs < 1073741824)) = true from by decide]; rfl) ⟨L' ++ [x], _, _, _, rfl, by rw [List.length_append]; simp; omega⟩
        · rintro ρ ⟨L', sd, rest, s8, rfl, hL'⟩
          exact ⟨L', _, _, _, _, _, rfl, by rw [Nat.succ_mul]; exact hL'⟩
      · rintro ρ ⟨L, sd, s5, s6, s7, s8, rfl, hL⟩
        exact ⟨rfl, L, _, _, _, _, _, rfl⟩
    · rintro ρ ⟨L, s4, s5, s6, s7, s8, rfl⟩
      refine Wp_st (ρ1 := [.scr ns, .fr (.int c), .fr (.int e), .own (ilist L.reverse), s4, s5, s6, s7, s8]) (by simp -implicitDefEqProofs only [bnd_ap, opM_ap, oneM_ap, boolM_ap, truM_ap, seeM_ap, lft_ap, nameM_ap, cstM_ap, pur_ap, keep_rep, keep_new, keep_bor, see_rep, see_new, see_bor, seqM_ap, asgM_ap, dispM_ap, muM_ap, tgM_ap, subM_ap, retM_rep, retM_new, retM_bor, chainM_ap, repM_ap, rmM_ap, isTy, callM_ap, callIO_ap, agM_f, agM_t, insR, hasSl, lenScrM_ap, ixScrM_ap, setAll, outs, endM, fnM_ap, gAdd, DL.gSub, gI, gCI, gMul, gMod, gDiv, gPow, gLen, gInt, gAbs, gNeg, gIs, gEq, gIx, isNone, boolOf, gTruth, gAppend, gPop, gPopAt, gReverse, gExtend, gListOf, gTupOf, seqOf_list, seqOf_tup, rng1, rng2, gRgL, gRgL2, eqD_int, List.getElem?_cons_zero, List.getElem?_cons_succ, List.set_cons_zero, List.set_cons_succ, List.length_cons, List.length_nil, List.nil_append, List.cons_append, List.append_nil, List.replicate_zero, List.replicate_succ, List.replicate_one, if_true, if_false, Bool.false_eq_true, reduceIte, Nat.reduceAdd, Nat.reduceSub, List.contains_cons, List.contains_nil, Bool.or_false, Nat.reduceBEq, Bool.false_or, Bool.true_or, Bool.or_true, Bool.and_true, Bool.true_and, ← List.map_reverse]) ?_
      exact Wp.of (by simp -implicitDefEqProofs only [bnd_ap, opM_ap, oneM_ap, boolM_ap, truM_ap, seeM_ap, lft_ap, nameM_ap, cstM_ap, pur_ap, keep_rep, keep_new, keep_bor, see_rep, see_new, see_bor, seqM_ap, asgM_ap, dispM_ap, muM_ap, tgM_ap, subM_ap, retM_rep, retM_new, retM_bor, chainM_ap, repM_ap, rmM_ap, isTy, callM_ap, callIO_ap, agM_f, agM_t, insR, hasSl, lenScrM_ap, ixScrM_ap, setAll, outs, endM, fnM_ap, gAdd, DL.gSub, gI, gCI, gMul, gMod, gDiv, gPow, gLen, gInt, gAbs, gNeg, gIs, gEq, gIx, isNone, boolOf, gTruth, gAppend, gPop, gPopAt, gReverse, gExtend, gListOf, gTupOf, seqOf_list, seqOf_tup, rng1, rng2, gRgL, gRgL2, eqD_int, List.getElem?_cons_zero, List.getElem?_cons_succ, List.set_cons_zero, List.set_cons_succ, List.length_cons, List.length_nil, List.nil_append, List.cons_append, List.append_nil, List.replicate_zero, List.replicate_succ, List.replicate_one, if_true, if_false, Bool.false_eq_true, reduceIte, Nat.reduceAdd, Nat.reduceSub, List.contains_cons, List.contains_nil, Bool.or_false, Nat.reduceBEq, Bool.false_or, Bool.true_or, Bool.or_true, Bool.and_true, Bool.true_and]; rfl) ⟨_, rfl⟩
  obtain ⟨r, o, q, L, rfl, rfl⟩ := fn_ex (A := _) (n := 9) (body := t_deck) (ins := [.scr ns, .fr (.int c), .fr (.int e)]) (Q := fun r o => ∃ L : List Int, r = .new (ilist L) ∧ o = [.un, .un, .un]) (main.mono fun ct ρ ⟨L, e⟩ => ⟨.new (ilist L), [.un, .un, .un], by subst e; rfl, L, rfl, rfl⟩)
  exact ⟨L, q⟩
end DL
set_option Elab.async false
set_option linter.all false
set_option maxRecDepth 100000
set_option maxHeartbeats 1000000
namespace DL
open PySem PySem.Spec L2
/-! ### comprehensions whose turns leave the state -/
def lcT (vs : List Nat) (g : D → M Unit) (t : M Bool) (e : M Rv) (d : D) : M (Option D) := bnd (g d) fun _ => bnd t fun b => if b = true then bnd (bnd e keep) fun y => fun ρ => some (some y, wipeE ρ vs) else fun ρ => some (none, wipeE ρ vs)
theorem lcL_pure {vs : List Nat} {g : D → M Unit} {t : M Bool} {e : M Rv} {ρ0 : En} (p : D → Bool) (f : D → D) : ∀ {l : List D}, (∀ d ∈ l, lcT vs g t e d ρ0 = some (if p d then some (f d) else none, ρ0)) → lcL vs g t e l ρ0 = some ((l.filter p).map f, ρ0)
  | [], _ => rfl
  | d :: r, h => by
    have ih := lcL_pure (vs := vs) (g := g) (t := t) (e := e) (ρ0 := ρ0) p f (l := r) fun d hd => h d (List.mem_cons_of_mem _ hd)
    have hd := h d List.mem_cons_self
    unfold lcT at hd
    unfold lcL
    rw [bnd_ap] at hd ⊢
    cases q1 : g d ρ0 with
    | none => rw [q1] at hd; cases hd
    | some a1 =>
      obtain ⟨u, ρ1⟩ := a1
      rw [q1] at hd
      dsimp only at hd ⊢
      rw [bnd_ap] at hd ⊢
      cases q2 : t ρ1 with
      | none => rw [q2] at hd; cases hd
      | some a2 =>
        obtain ⟨b, ρ2⟩ := a2
        rw [q2] at hd
        dsimp only at hd ⊢
        cases b with
        | false =>
          rw [if_neg Bool.false_ne_true] at hd ⊢
          injection hd with hd
          injection hd with h1 h2
          cases q3 : p d with
          | true => rw [q3, if_pos rfl] at h1; cases h1
          | false =>
            rw [List.filter_cons_of_neg (by rw [q3]; exact Bool.false_ne_true)]
            rw [h2]; exact ih
        | true =>
          rw [if_pos rfl] at hd ⊢
          rw [bnd_ap] at hd ⊢
          cases q4 : bnd e keep ρ2 with
          | none => rw [q4] at hd; cases hd
          | some a4 =>
            obtain ⟨y, ρ3⟩ := a4
            rw [q4] at hd
            dsimp only at hd ⊢
            injection hd with hd
            injection hd with h1 h2
            cases q3 : p d with
            | false => rw [q3, if_neg Bool.false_ne_true] at h1; cases h1
            | true =>
              rw [q3, if_pos rfl] at h1
              cases h1
              rw [List.filter_cons_of_pos q3, h2, ih]
              rfl
theorem lcL_map {vs : List Nat} {g : D → M Unit} {t : M Bool} {e : M Rv} {ρ0 : En} (f : D → D) {l : List D} (h : ∀ d ∈ l, lcT vs g t e d ρ0 = some (some (f d), ρ0)) : lcL vs g t e l ρ0 = some (l.map f, ρ0) := by
  have := lcL_pure (vs := vs) (g := g) (t := t) (e := e) (ρ0 := ρ0) (fun _ => true) f (l := l) h
  rw [this, List.filter_eq_self.mpr fun _ _ => rfl]

/-! ### the law's plain form -/
mutual
def plainD : D → D
  | .list l => .list (.bool true :: plainDs l)
  | .tuple l => .list (.bool false :: plainDs l)
  | .none => .str (Str.ofString "None")
  | .bool b => .str (if b then Str.ofString "True" else Str.ofString "False")
  | .int i => .list [.bool false, .int i]
  | .str x => .list [.bool true, .str x]
  | .dict _ => .str (Str.ofString "another")
def plainDs : List D → List D
  | [] => []
  | d :: r => plainD d :: plainDs r
end
theorem plainDs_map : ∀ l : List D, plainDs l = l.map plainD
  | [] => rfl
  | d :: r => by rw [plainDs, plainDs_map r]; rfl
mutual
theorem plainD_plain : ∀ d : D, (plainD d).plain = true
  | .list l => by simp only [plainD, PyData.plain, PyData.plainAll, plainDs_plain l, Bool.and_self]
  | .tuple l => by simp only [plainD, PyData.plain, PyData.plainAll, plainDs_plain l, Bool.and_self]
  | .none => rfl
  | .bool _ => rfl
  | .int _ => rfl
  | .str _ => rfl
  | .dict _ => rfl
theorem plainDs_plain : ∀ l : List D, PyData.plainAll (plainDs l) = true
  | [] => rfl
  | d :: r => by simp only [plainDs, PyData.plainAll, plainD_plain d, plainDs_plain r, Bool.and_self]
end
mutual
theorem plainD_depth : ∀ d : D, (plainD d).depth ≤ d.depth + 1
  | .list l => by simp only [plainD, PyData.depth, PyData.depthAll]; have := plainDs_depth l; omega
  | .tuple l => by simp only [plainD, PyData.depth, PyData.depthAll]; have := plainDs_depth l; omega
  | .none => by simp only [plainD, PyData.depth]; omega
  | .bool _ => by simp only [plainD, PyData.depth]; omega
  | .int _ => by simp only [plainD, PyData.depth, PyData.depthAll]; omega
  | .str _ => by simp only [plainD, PyData.depth, PyData.depthAll]; omega
  | .dict _ => by simp only [plainD, PyData.depth]; omega
theorem plainDs_depth : ∀ l : List D, PyData.depthAll (plainDs l) ≤ PyData.depthAll l + 1
  | [] => by simp only [plainDs, PyData.depthAll]; omega
  | d :: r => by simp only [plainDs, PyData.depthAll]; have := plainD_depth d; have := plainDs_depth r; omega
end
mutual
/-- no dicts, lists not too long -/
def okP : D → Bool
  | .list l => decide (l.length < 16777216) && okPs l
  | .tuple l => decide (l.length < 16777216) && okPs l
  | .dict _ => false
  | .none | .bool _ | .int _ | .str _ => true
def okPs : List D → Bool
  | [] => true
  | d :: r => okP d && okPs r
end
theorem okPs_mem : ∀ {l : List D} {d : D}, okPs l = true → d ∈ l → okP d = true
  | x :: r, d, h, hm => by
    simp only [okPs, Bool.and_eq_true] at h
    rcases List.mem_cons.mp hm with z | z
    · rw [z]; exact h.1
    · exact okPs_mem h.2 z
theorem depth_mem : ∀ {l : List D} {d : D}, d ∈ l → d.depth ≤ PyData.depthAll l
  | x :: r, d, h => by
    simp only [PyData.depthAll]
    rcases List.mem_cons.mp h with z | z
    · rw [z]; omega
    · have := depth_mem z; omega
def t_plain (self : Fn) : M Ct :=
  (seqM (bnd (truM (oneM (gIsi2 "tuple" "list") (nameM 0))) fun b => if b = true then (bnd (opM gAdd (dispM (fun ds => .new (.list ds)) (bnd (bnd (oneM (gIsi "list") (nameM 0)) keep) fun d => bnd (fun ρ => some ([], ρ)) fun ds => pur (d :: ds))) (lcM [1] (bnd (bnd (nameM 0) keep) fun d => lft (seqOf d)) (tgM 1) (pur true) (callM self (bnd (bnd (nameM 1) (agM false)) fun a => bnd (fun ρ => some ([], ρ)) fun as => pur (a :: as))))) retM) else (pur .nx)) (seqM (bnd (bnd (boolM (opM (gIs false) (nameM 0) (cstM .none))) fun b => if b = true then pur true else (truM (oneM (gIsi "bool") (nameM 0)))) fun b => if b = true then (bnd (opM gIx (dispM (fun ds => .new (.list ds)) (bnd (bnd (cstM (.str (Str.ofString "None"))) keep) fun d => bnd (bnd (bnd (cstM (.str (Str.ofString "False"))) keep) fun d => bnd (bnd (bnd (cstM (.str (Str.ofString "True"))) keep) fun d => bnd (fun ρ => some ([], ρ)) fun ds => pur (d :: ds)) fun ds => pur (d :: ds)) fun ds => pur (d :: ds))) (opM gAdd (oneM gInt (opM (gIs true) (nameM 0) (cstM .none))) (oneM gInt (opM (gIs false) (nameM 0) (cstM (.bool true)))))) retM) else (pur .nx)) (bnd (bnd (truM (oneM (gIsi2 "int" "str") (nameM 0))) fun b => if b = true then (dispM (fun ds => .new (.list ds)) (bnd (bnd (oneM (gIsi "str") (nameM 0)) keep) fun d => bnd (bnd (bnd (nameM 0) keep) fun d => bnd (fun ρ => some ([], ρ)) fun ds => pur (d :: ds)) fun ds => pur (d :: ds))) else (cstM (.str (Str.ofString "another")))) retM)))
def φ_plain : Nat → Fn
  | 0 => fun _ => none
  | n + 1 => fnM (([] ++ []) ++ (([] ++ []) ++ [])) 2 (t_plain (φ_plain n))
def t_same : M Ct :=
  (bnd (opM (gEq false) (callM (φ_plain 6) (bnd (bnd (nameM 0) (agM false)) fun a => bnd (fun ρ => some ([], ρ)) fun as => pur (a :: as))) (callM (φ_plain 6) (bnd (bnd (nameM 1) (agM false)) fun a => bnd (fun ρ => some ([], ρ)) fun as => pur (a :: as)))) retM)
def φ_same : Fn := fnM [] 2 t_same
theorem plain_seq {n : Nat} {d : D} {l : List D} (hs : seqOf d = some l) (hl : l.length < 16777216) (k : Bool) (h1 : gIsi2 "tuple" "list" d = some (.rep (.bool true))) (h2 : gIsi "list" d = some (.rep (.bool k)))
    (ih : ∀ x ∈ l, ∃ r, φ_plain n [.fr x] = some (r, [.un]) ∧ (r = .rep (plainD x) ∨ r = .new (plainD x))) : φ_plain (n + 1) [.fr d] = some (.new (.list (.bool k :: l.map plainD)), [.un]) := by
  have hm : lcL [1] (tgM 1) (pur true) (callM (φ_plain n) (bnd (bnd (nameM 1) (agM false)) fun a => bnd (fun ρ => some ([], ρ)) fun as => pur (a :: as))) l [.fr d, .un] = some (l.map plainD, [.fr d, .un]) := by
    refine lcL_map plainD fun x hx => ?_
    obtain ⟨r, e, hr⟩ := ih x hx
    rcases hr with rfl | rfl
    · simp -implicitDefEqProofs only [bnd_ap, opM_ap, oneM_ap, boolM_ap, truM_ap, seeM_ap, lft_ap, nameM_ap, cstM_ap, pur_ap, keep_rep, keep_new, keep_bor, see_rep, see_new, see_bor, seqM_ap, asgM_ap, dispM_ap, muM_ap, tgM_ap, subM_ap, retM_rep, retM_new, retM_bor, chainM_ap, repM_ap, rmM_ap, isTy, callM_ap, callIO_ap, agM_f, agM_t, insR, hasSl, lenScrM_ap, ixScrM_ap, setAll, outs, endM, fnM_ap, gAdd, DL.gSub, gI, gCI, gMul, gMod, gDiv, gPow, gLen, gInt, gAbs, gNeg, gIs, gEq, gIx, isNone, boolOf, gTruth, gAppend, gPop, gPopAt, gReverse, gExtend, gListOf, gTupOf, seqOf_list, seqOf_tup, rng1, rng2, gRgL, gRgL2, eqD_int, List.getElem?_cons_zero, List.getElem?_cons_succ, List.set_cons_zero, List.set_cons_succ, List.length_cons, List.length_nil, List.nil_append, List.cons_append, List.append_nil, List.replicate_zero, List.replicate_succ, List.replicate_one, if_true, if_false, Bool.false_eq_true, reduceIte, Nat.reduceAdd, Nat.reduceSub, List.contains_cons, List.contains_nil, Bool.or_false, Nat.reduceBEq, Bool.false_or, Bool.true_or, Bool.or_true, Bool.and_true, Bool.true_and, lcT, e, wipeE]
    · simp -implicitDefEqProofs only [bnd_ap, opM_ap, oneM_ap, boolM_ap, truM_ap, seeM_ap, lft_ap, nameM_ap, cstM_ap, pur_ap, keep_rep, keep_new, keep_bor, see_rep, see_new, see_bor, seqM_ap, asgM_ap, dispM_ap, muM_ap, tgM_ap, subM_ap, retM_rep, retM_new, retM_bor, chainM_ap, repM_ap, rmM_ap, isTy, callM_ap, callIO_ap, agM_f, agM_t, insR, hasSl, lenScrM_ap, ixScrM_ap, setAll, outs, endM, fnM_ap, gAdd, DL.gSub, gI, gCI, gMul, gMod, gDiv, gPow, gLen, gInt, gAbs, gNeg, gIs, gEq, gIx, isNone, boolOf, gTruth, gAppend, gPop, gPopAt, gReverse, gExtend, gListOf, gTupOf, seqOf_list, seqOf_tup, rng1, rng2, gRgL, gRgL2, eqD_int, List.getElem?_cons_zero, List.getElem?_cons_succ, List.set_cons_zero, List.set_cons_succ, List.length_cons, List.length_nil, List.nil_append, List.cons_append, List.append_nil, List.replicate_zero, List.replicate_succ, List.replicate_one, if_true, if_false, Bool.false_eq_true, reduceIte, Nat.reduceAdd, Nat.reduceSub, List.contains_cons, List.contains_nil, Bool.or_false, Nat.reduceBEq, Bool.false_or, Bool.true_or, Bool.or_true, Bool.and_true, Bool.true_and, lcT, e, wipeE]
  have hl2 : l.length ≤ 16777216 := by omega
  have hl3 : (0 + 1 + (l.map plainD).length ≤ 16777216) := by rw [List.length_map]; omega
  simp -implicitDefEqProofs only [bnd_ap, opM_ap, oneM_ap, boolM_ap, truM_ap, seeM_ap, lft_ap, nameM_ap, cstM_ap, pur_ap, keep_rep, keep_new, keep_bor, see_rep, see_new, see_bor, seqM_ap, asgM_ap, dispM_ap, muM_ap, tgM_ap, subM_ap, retM_rep, retM_new, retM_bor, chainM_ap, repM_ap, rmM_ap, isTy, callM_ap, callIO_ap, agM_f, agM_t, insR, hasSl, lenScrM_ap, ixScrM_ap, setAll, outs, endM, fnM_ap, gAdd, DL.gSub, gI, gCI, gMul, gMod, gDiv, gPow, gLen, gInt, gAbs, gNeg, gIs, gEq, gIx, isNone, boolOf, gTruth, gAppend, gPop, gPopAt, gReverse, gExtend, gListOf, gTupOf, seqOf_list, seqOf_tup, rng1, rng2, gRgL, gRgL2, eqD_int, List.getElem?_cons_zero, List.getElem?_cons_succ, List.set_cons_zero, List.set_cons_succ, List.length_cons, List.length_nil, List.nil_append, List.cons_append, List.append_nil, List.replicate_zero, List.replicate_succ, List.replicate_one, if_true, if_false, Bool.false_eq_true, reduceIte, Nat.reduceAdd, Nat.reduceSub, List.contains_cons, List.contains_nil, Bool.or_false, Nat.reduceBEq, Bool.false_or, Bool.true_or, Bool.or_true, Bool.and_true, Bool.true_and, φ_plain, t_plain, h1, h2, lcM, hs, wipeE, hl2, hm, mend, hl3, Nat.zero_le, show (0 + 1 : Nat) ≤ 16777216 from by omega]
theorem kb_NoneType_tuple : kitB "NoneType" "tuple" = some false := by decide +kernel
theorem kb_NoneType_list : kitB "NoneType" "list" = some false := by decide +kernel
theorem kb_NoneType_bool : kitB "NoneType" "bool" = some false := by decide +kernel
theorem kb_NoneType_int : kitB "NoneType" "int" = some false := by decide +kernel
theorem kb_NoneType_str : kitB "NoneType" "str" = some false := by decide +kernel
theorem kb_bool_tuple : kitB "bool" "tuple" = some false := by decide +kernel
theorem kb_bool_list : kitB "bool" "list" = some false := by decide +kernel
theorem kb_bool_bool : kitB "bool" "bool" = some true := by decide +kernel
theorem kb_bool_int : kitB "bool" "int" = some true := by decide +kernel
theorem kb_bool_str : kitB "bool" "str" = some false := by decide +kernel
theorem kb_int_tuple : kitB "int" "tuple" = some false := by decide +kernel
theorem kb_int_list : kitB "int" "list" = some false := by decide +kernel
theorem kb_int_bool : kitB "int" "bool" = some false := by decide +kernel
theorem kb_int_int : kitB "int" "int" = some true := by decide +kernel
theorem kb_int_str : kitB "int" "str" = some false := by decide +kernel
theorem kb_str_tuple : kitB "str" "tuple" = some false := by decide +kernel
theorem kb_str_list : kitB "str" "list" = some false := by decide +kernel
theorem kb_str_bool : kitB "str" "bool" = some false := by decide +kernel
theorem kb_str_int : kitB "str" "int" = some false := by decide +kernel
theorem kb_str_str : kitB "str" "str" = some true := by decide +kernel
theorem kb_list_tuple : kitB "list" "tuple" = some false := by decide +kernel
theorem kb_list_list : kitB "list" "list" = some true := by decide +kernel
theorem kb_list_bool : kitB "list" "bool" = some false := by decide +kernel
theorem kb_list_int : kitB "list" "int" = some false := by decide +kernel
theorem kb_list_str : kitB "list" "str" = some false := by decide +kernel
theorem kb_tuple_tuple : kitB "tuple" "tuple" = some true := by decide +kernel
theorem kb_tuple_list : kitB "tuple" "list" = some false := by decide +kernel
theorem kb_tuple_bool : kitB "tuple" "bool" = some false := by decide +kernel
theorem kb_tuple_int : kitB "tuple" "int" = some false := by decide +kernel
theorem kb_tuple_str : kitB "tuple" "str" = some false := by decide +kernel
theorem plain_ok : ∀ (n : Nat) (d : D), okP d = true → d.depth < n → ∃ r, φ_plain n [.fr d] = some (r, [.un]) ∧ (r = .rep (plainD d) ∨ r = .new (plainD d))
  | 0, _, _, h => absurd h (Nat.not_lt_zero _)
  | n + 1, d, ho, h => by
    cases d with
    | list l =>
      simp only [okP, Bool.and_eq_true, decide_eq_true_eq] at ho
      simp only [PyData.depth] at h
      refine ⟨_, plain_seq (d := .list l) rfl ho.1 true (by simp only [gIsi, gIsi2, tyN, kb_NoneType_tuple, kb_NoneType_list, kb_NoneType_bool, kb_NoneType_int, kb_NoneType_str, kb_bool_tuple, kb_bool_list, kb_bool_bool, kb_bool_int, kb_bool_str, kb_int_tuple, kb_int_list, kb_int_bool, kb_int_int, kb_int_str, kb_str_tuple, kb_str_list, kb_str_bool, kb_str_int, kb_str_str, kb_list_tuple, kb_list_list, kb_list_bool, kb_list_int, kb_list_str, kb_tuple_tuple, kb_tuple_list, kb_tuple_bool, kb_tuple_int, kb_tuple_str]) (by simp only [gIsi, gIsi2, tyN, kb_NoneType_tuple, kb_NoneType_list, kb_NoneType_bool, kb_NoneType_int, kb_NoneType_str, kb_bool_tuple, kb_bool_list, kb_bool_bool, kb_bool_int, kb_bool_str, kb_int_tuple, kb_int_list, kb_int_bool, kb_int_int, kb_int_str, kb_str_tuple, kb_str_list, kb_str_bool, kb_str_int, kb_str_str, kb_list_tuple, kb_list_list, kb_list_bool, kb_list_int, kb_list_str, kb_tuple_tuple, kb_tuple_list, kb_tuple_bool, kb_tuple_int, kb_tuple_str]) fun x hx => plain_ok n x (okPs_mem ho.2 hx) (by have := depth_mem hx; omega), .inr ?_⟩
      rw [plainD, plainDs_map]
    | tuple l =>
      simp only [okP, Bool.and_eq_true, decide_eq_true_eq] at ho
      simp only [PyData.depth] at h
      refine ⟨_, plain_seq (d := .tuple l) rfl ho.1 false (by simp only [gIsi, gIsi2, tyN, kb_NoneType_tuple, kb_NoneType_list, kb_NoneType_bool, kb_NoneType_int, kb_NoneType_str, kb_bool_tuple, kb_bool_list, kb_bool_bool, kb_bool_int, kb_bool_str, kb_int_tuple, kb_int_list, kb_int_bool, kb_int_int, kb_int_str, kb_str_tuple, kb_str_list, kb_str_bool, kb_str_int, kb_str_str, kb_list_tuple, kb_list_list, kb_list_bool, kb_list_int, kb_list_str, kb_tuple_tuple, kb_tuple_list, kb_tuple_bool, kb_tuple_int, kb_tuple_str]) (by simp only [gIsi, gIsi2, tyN, kb_NoneType_tuple, kb_NoneType_list, kb_NoneType_bool, kb_NoneType_int, kb_NoneType_str, kb_bool_tuple, kb_bool_list, kb_bool_bool, kb_bool_int, kb_bool_str, kb_int_tuple, kb_int_list, kb_int_bool, kb_int_int, kb_int_str, kb_str_tuple, kb_str_list, kb_str_bool, kb_str_int, kb_str_str, kb_list_tuple, kb_list_list, kb_list_bool, kb_list_int, kb_list_str, kb_tuple_tuple, kb_tuple_list, kb_tuple_bool, kb_tuple_int, kb_tuple_str]) fun x hx => plain_ok n x (okPs_mem ho.2 hx) (by have := depth_mem hx; omega), .inr ?_⟩
      rw [plainD, plainDs_map]
    | none => exact ⟨.rep (plainD .none), by simp -implicitDefEqProofs only [bnd_ap, opM_ap, oneM_ap, boolM_ap, truM_ap, seeM_ap, lft_ap, nameM_ap, cstM_ap, pur_ap, keep_rep, keep_new, keep_bor, see_rep, see_new, see_bor, seqM_ap, asgM_ap, dispM_ap, muM_ap, tgM_ap, subM_ap, retM_rep, retM_new, retM_bor, chainM_ap, repM_ap, rmM_ap, isTy, callM_ap, callIO_ap, agM_f, agM_t, insR, hasSl, lenScrM_ap, ixScrM_ap, setAll, outs, endM, fnM_ap, gAdd, DL.gSub, gI, gCI, gMul, gMod, gDiv, gPow, gLen, gInt, gAbs, gNeg, gIs, gEq, gIx, isNone, boolOf, gTruth, gAppend, gPop, gPopAt, gReverse, gExtend, gListOf, gTupOf, seqOf_list, seqOf_tup, rng1, rng2, gRgL, gRgL2, eqD_int, List.getElem?_cons_zero, List.getElem?_cons_succ, List.set_cons_zero, List.set_cons_succ, List.length_cons, List.length_nil, List.nil_append, List.cons_append, List.append_nil, List.replicate_zero, List.replicate_succ, List.replicate_one, if_true, if_false, Bool.false_eq_true, reduceIte, Nat.reduceAdd, Nat.reduceSub, List.contains_cons, List.contains_nil, Bool.or_false, Nat.reduceBEq, Bool.false_or, Bool.true_or, Bool.or_true, Bool.and_true, Bool.true_and, φ_plain, t_plain, gIsi, gIsi2, tyN, kb_NoneType_tuple, kb_NoneType_list, kb_NoneType_bool, kb_NoneType_int, kb_NoneType_str, kb_bool_tuple, kb_bool_list, kb_bool_bool, kb_bool_int, kb_bool_str, kb_int_tuple, kb_int_list, kb_int_bool, kb_int_int, kb_int_str, kb_str_tuple, kb_str_list, kb_str_bool, kb_str_int, kb_str_str, kb_list_tuple, kb_list_list, kb_list_bool, kb_list_int, kb_list_str, kb_tuple_tuple, kb_tuple_list, kb_tuple_bool, kb_tuple_int, kb_tuple_str]; rfl, .inl rfl⟩
    | bool b => cases b <;> exact ⟨.rep (plainD (.bool _)), by simp -implicitDefEqProofs only [bnd_ap, opM_ap, oneM_ap, boolM_ap, truM_ap, seeM_ap, lft_ap, nameM_ap, cstM_ap, pur_ap, keep_rep, keep_new, keep_bor, see_rep, see_new, see_bor, seqM_ap, asgM_ap, dispM_ap, muM_ap, tgM_ap, subM_ap, retM_rep, retM_new, retM_bor, chainM_ap, repM_ap, rmM_ap, isTy, callM_ap, callIO_ap, agM_f, agM_t, insR, hasSl, lenScrM_ap, ixScrM_ap, setAll, outs, endM, fnM_ap, gAdd, DL.gSub, gI, gCI, gMul, gMod, gDiv, gPow, gLen, gInt, gAbs, gNeg, gIs, gEq, gIx, isNone, boolOf, gTruth, gAppend, gPop, gPopAt, gReverse, gExtend, gListOf, gTupOf, seqOf_list, seqOf_tup, rng1, rng2, gRgL, gRgL2, eqD_int, List.getElem?_cons_zero, List.getElem?_cons_succ, List.set_cons_zero, List.set_cons_succ, List.length_cons, List.length_nil, List.nil_append, List.cons_append, List.append_nil, List.replicate_zero, List.replicate_succ, List.replicate_one, if_true, if_false, Bool.false_eq_true, reduceIte, Nat.reduceAdd, Nat.reduceSub, List.contains_cons, List.contains_nil, Bool.or_false, Nat.reduceBEq, Bool.false_or, Bool.true_or, Bool.or_true, Bool.and_true, Bool.true_and, φ_plain, t_plain, gIsi, gIsi2, tyN, kb_NoneType_tuple, kb_NoneType_list, kb_NoneType_bool, kb_NoneType_int, kb_NoneType_str, kb_bool_tuple, kb_bool_list, kb_bool_bool, kb_bool_int, kb_bool_str, kb_int_tuple, kb_int_list, kb_int_bool, kb_int_int, kb_int_str, kb_str_tuple, kb_str_list, kb_str_bool, kb_str_int, kb_str_str, kb_list_tuple, kb_list_list, kb_list_bool, kb_list_int, kb_list_str, kb_tuple_tuple, kb_tuple_list, kb_tuple_bool, kb_tuple_int, kb_tuple_str]; rfl, .inl rfl⟩
    | int i => exact ⟨.new (plainD (.int i)), by simp -implicitDefEqProofs only [bnd_ap, opM_ap, oneM_ap, boolM_ap, truM_ap, seeM_ap, lft_ap, nameM_ap, cstM_ap, pur_ap, keep_rep, keep_new, keep_bor, see_rep, see_new, see_bor, seqM_ap, asgM_ap, dispM_ap, muM_ap, tgM_ap, subM_ap, retM_rep, retM_new, retM_bor, chainM_ap, repM_ap, rmM_ap, isTy, callM_ap, callIO_ap, agM_f, agM_t, insR, hasSl, lenScrM_ap, ixScrM_ap, setAll, outs, endM, fnM_ap, gAdd, DL.gSub, gI, gCI, gMul, gMod, gDiv, gPow, gLen, gInt, gAbs, gNeg, gIs, gEq, gIx, isNone, boolOf, gTruth, gAppend, gPop, gPopAt, gReverse, gExtend, gListOf, gTupOf, seqOf_list, seqOf_tup, rng1, rng2, gRgL, gRgL2, eqD_int, List.getElem?_cons_zero, List.getElem?_cons_succ, List.set_cons_zero, List.set_cons_succ, List.length_cons, List.length_nil, List.nil_append, List.cons_append, List.append_nil, List.replicate_zero, List.replicate_succ, List.replicate_one, if_true, if_false, Bool.false_eq_true, reduceIte, Nat.reduceAdd, Nat.reduceSub, List.contains_cons, List.contains_nil, Bool.or_false, Nat.reduceBEq, Bool.false_or, Bool.true_or, Bool.or_true, Bool.and_true, Bool.true_and, φ_plain, t_plain, gIsi, gIsi2, tyN, kb_NoneType_tuple, kb_NoneType_list, kb_NoneType_bool, kb_NoneType_int, kb_NoneType_str, kb_bool_tuple, kb_bool_list, kb_bool_bool, kb_bool_int, kb_bool_str, kb_int_tuple, kb_int_list, kb_int_bool, kb_int_int, kb_int_str, kb_str_tuple, kb_str_list, kb_str_bool, kb_str_int, kb_str_str, kb_list_tuple, kb_list_list, kb_list_bool, kb_list_int, kb_list_str, kb_tuple_tuple, kb_tuple_list, kb_tuple_bool, kb_tuple_int, kb_tuple_str]; rfl, .inr rfl⟩
    | str x => exact ⟨.new (plainD (.str x)), by simp -implicitDefEqProofs only [bnd_ap, opM_ap, oneM_ap, boolM_ap, truM_ap, seeM_ap, lft_ap, nameM_ap, cstM_ap, pur_ap, keep_rep, keep_new, keep_bor, see_rep, see_new, see_bor, seqM_ap, asgM_ap, dispM_ap, muM_ap, tgM_ap, subM_ap, retM_rep, retM_new, retM_bor, chainM_ap, repM_ap, rmM_ap, isTy, callM_ap, callIO_ap, agM_f, agM_t, insR, hasSl, lenScrM_ap, ixScrM_ap, setAll, outs, endM, fnM_ap, gAdd, DL.gSub, gI, gCI, gMul, gMod, gDiv, gPow, gLen, gInt, gAbs, gNeg, gIs, gEq, gIx, isNone, boolOf, gTruth, gAppend, gPop, gPopAt, gReverse, gExtend, gListOf, gTupOf, seqOf_list, seqOf_tup, rng1, rng2, gRgL, gRgL2, eqD_int, List.getElem?_cons_zero, List.getElem?_cons_succ, List.set_cons_zero, List.set_cons_succ, List.length_cons, List.length_nil, List.nil_append, List.cons_append, List.append_nil, List.replicate_zero, List.replicate_succ, List.replicate_one, if_true, if_false, Bool.false_eq_true, reduceIte, Nat.reduceAdd, Nat.reduceSub, List.contains_cons, List.contains_nil, Bool.or_false, Nat.reduceBEq, Bool.false_or, Bool.true_or, Bool.or_true, Bool.and_true, Bool.true_and, φ_plain, t_plain, gIsi, gIsi2, tyN, kb_NoneType_tuple, kb_NoneType_list, kb_NoneType_bool, kb_NoneType_int, kb_NoneType_str, kb_bool_tuple, kb_bool_list, kb_bool_bool, kb_bool_int, kb_bool_str, kb_int_tuple, kb_int_list, kb_int_bool, kb_int_int, kb_int_str, kb_str_tuple, kb_str_list, kb_str_bool, kb_str_int, kb_str_str, kb_list_tuple, kb_list_list, kb_list_bool, kb_list_int, kb_list_str, kb_tuple_tuple, kb_tuple_list, kb_tuple_bool, kb_tuple_int, kb_tuple_str]; rfl, .inr rfl⟩
    | dict l => cases ho
/-- what is the same data is the same to the law -/
theorem same_ok (d : D) (h1 : okP d = true) (h2 : d.depth < 6) : φ_same [.fr d, .fr d] = some (.rep (.bool true), [.un, .un]) := by
  obtain ⟨r, e, hr⟩ := plain_ok 6 d h1 h2
  have he : eqD (plainD d) (plainD d) = some true := by
    have p := plainD_plain d
    have q := plainD_depth d
    have v := SeqAt.eqv_refl_plain _ p
    unfold eqD
    split
    · rename_i i j e1 e2
      rw [e1] at e2
      cases e2
      simp
    · rw [p, v]
      simp
      omega
  rcases hr with rfl | rfl
  · simp -implicitDefEqProofs only [bnd_ap, opM_ap, oneM_ap, boolM_ap, truM_ap, seeM_ap, lft_ap, nameM_ap, cstM_ap, pur_ap, keep_rep, keep_new, keep_bor, see_rep, see_new, see_bor, seqM_ap, asgM_ap, dispM_ap, muM_ap, tgM_ap, subM_ap, retM_rep, retM_new, retM_bor, chainM_ap, repM_ap, rmM_ap, isTy, callM_ap, callIO_ap, agM_f, agM_t, insR, hasSl, lenScrM_ap, ixScrM_ap, setAll, outs, endM, fnM_ap, gAdd, DL.gSub, gI, gCI, gMul, gMod, gDiv, gPow, gLen, gInt, gAbs, gNeg, gIs, gEq, gIx, isNone, boolOf, gTruth, gAppend, gPop, gPopAt, gReverse, gExtend, gListOf, gTupOf, seqOf_list, seqOf_tup, rng1, rng2, gRgL, gRgL2, eqD_int, List.getElem?_cons_zero, List.getElem?_cons_succ, List.set_cons_zero, List.set_cons_succ, List.length_cons, List.length_nil, List.nil_append, List.cons_append, List.append_nil, List.replicate_zero, List.replicate_succ, List.replicate_one, if_true, if_false, Bool.false_eq_true, reduceIte, Nat.reduceAdd, Nat.reduceSub, List.contains_cons, List.contains_nil, Bool.or_false, Nat.reduceBEq, Bool.false_or, Bool.true_or, Bool.or_true, Bool.and_true, Bool.true_and, φ_same, t_same, e, he]
  · simp -implicitDefEqProofs only [bnd_ap, opM_ap, oneM_ap, boolM_ap, truM_ap, seeM_ap, lft_ap, nameM_ap, cstM_ap, pur_ap, keep_rep, keep_new, keep_bor, see_rep, see_new, see_bor, seqM_ap, asgM_ap, dispM_ap, muM_ap, tgM_ap, subM_ap, retM_rep, retM_new, retM_bor, chainM_ap, repM_ap, rmM_ap, isTy, callM_ap, callIO_ap, agM_f, agM_t, insR, hasSl, lenScrM_ap, ixScrM_ap, setAll, outs, endM, fnM_ap, gAdd, DL.gSub, gI, gCI, gMul, gMod, gDiv, gPow, gLen, gInt, gAbs, gNeg, gIs, gEq, gIx, isNone, boolOf, gTruth, gAppend, gPop, gPopAt, gReverse, gExtend, gListOf, gTupOf, seqOf_list, seqOf_tup, rng1, rng2, gRgL, gRgL2, eqD_int, List.getElem?_cons_zero, List.getElem?_cons_succ, List.set_cons_zero, List.set_cons_succ, List.length_cons, List.length_nil, List.nil_append, List.cons_append, List.append_nil, List.replicate_zero, List.replicate_succ, List.replicate_one, if_true, if_false, Bool.false_eq_true, reduceIte, Nat.reduceAdd, Nat.reduceSub, List.contains_cons, List.contains_nil, Bool.or_false, Nat.reduceBEq, Bool.false_or, Bool.true_or, Bool.or_true, Bool.and_true, Bool.true_and, φ_same, t_same, e, he]
theorem okPs_ints : ∀ L : List Int, okPs (L.map PyData.int) = true
  | [] => rfl
  | x :: r => by simp only [List.map_cons, okPs, okP, okPs_ints r, Bool.and_self]
theorem okP_ilist (L : List Int) : okP (ilist L) = decide (L.length < 16777216) := by
  simp only [okP, okPs_ints, List.length_map, Bool.and_true]
theorem depthAll_ints : ∀ L : List Int, PyData.depthAll (L.map PyData.int) = 0
  | [] => rfl
  | x :: r => by simp only [List.map_cons, PyData.depthAll, PyData.depth, depthAll_ints r]; rfl
theorem depth_ilist (L : List Int) : (ilist L).depth = 1 := by
  simp only [PyData.depth, depthAll_ints]
theorem plainAll_ints : ∀ L : List Int, PyData.plainAll (L.map PyData.int) = true
  | [] => rfl
  | x :: r => by simp only [List.map_cons, PyData.plainAll, PyData.plain, plainAll_ints r, Bool.and_self]
theorem plain_ilist (L : List Int) : (ilist L).plain = true := by
  simp only [PyData.plain, plainAll_ints]
/-- data that is the same is equal -/
theorem eqD_refl (d : D) (h1 : d.plain = true) (h2 : d.depth ≤ 60) : eqD d d = some true := by
  have h3 : (d.plain && d.plain && decide (d.depth ≤ 60)) = true := by simp [h1, h2]
  have h4 := SeqAt.eqv_refl_plain _ h1
  cases d with
  | int i => simp [eqD]
  | none => simp only [eqD]; rw [if_pos h3, h4]
  | bool b => simp only [eqD]; rw [if_pos h3, h4]
  | str x => simp only [eqD]; rw [if_pos h3, h4]
  | list l => simp only [eqD]; rw [if_pos h3, h4]
  | tuple l => simp only [eqD]; rw [if_pos h3, h4]
  | dict l => cases h1
theorem eqD_ilist (L : List Int) : eqD (ilist L) (ilist L) = some true := eqD_refl _ (plain_ilist L) (by rw [depth_ilist]; omega)
theorem intsD_map : ∀ L : List Int, intsD (L.map PyData.int) = some L
  | [] => rfl
  | x :: r => by simp only [List.map_cons, intsD, intsD_map r]
theorem idxI_mem {c : Int} : ∀ {L : List Int}, c ∈ L → ∃ i, idxI c L = some i
  | x :: r, h => by
    by_cases e : x = c
    · exact ⟨0, by simp [idxI, e]⟩
    · have hr : c ∈ r := (List.mem_cons.mp h).resolve_left fun z => e z.symm
      obtain ⟨i, ei⟩ := idxI_mem hr
      exact ⟨i + 1, by simp [idxI, e, ei]⟩
theorem gIndex_ok {L : List Int} {c : Int} (h : c ∈ L) : ∃ i : Nat, gIndex (ilist L) (.int c) = some (.rep (.int i)) ∧ L[i]? = some c ∧ ∀ s, s < i → L[s]? ≠ some c := by
  obtain ⟨i, ei⟩ := idxI_mem h
  obtain ⟨h1, h2⟩ := idxI_ok ei
  refine ⟨i, ?_, h1, fun s hs z => h2 s c hs z rfl⟩
  simp only [gIndex, intsD_map, ei]
theorem atI_neg1 {L : List Int} {x : Int} (h : L.getLast? = some x) : L2.atI (L.map PyData.int) (-1) = some (.int x) := by
  obtain ⟨xs, rfl⟩ : ∃ xs, L = xs ++ [x] := by
    rcases List.eq_nil_or_concat L with rfl | ⟨xs, y, rfl⟩
    · cases h
    · simp at h; subst h; exact ⟨xs, by simp⟩
  rw [List.map_append]
  exact L2.atI_last _ _
end DL
set_option Elab.async false
set_option linter.all false
set_option maxRecDepth 100000
set_option maxHeartbeats 1000000
namespace DL
open PySem PySem.Spec L2
/-! ### data compared by reckoning -/
mutual
def beqD : D → D → Bool
  | .none, .none => true
  | .bool a, .bool b => a == b
  | .int a, .int b => decide (a = b)
  | .str a, .str b => decide (a = b)
  | .list a, .list b => beqDs a b
  | .tuple a, .tuple b => beqDs a b
  | _, _ => false
def beqDs : List D → List D → Bool
  | [], [] => true
  | x :: r, y :: s => beqD x y && beqDs r s
  | _, _ => false
end
mutual
theorem beqD_eq : ∀ {a b : D}, beqD a b = true → a = b
  | .none, b, h => by cases b <;> simp [beqD] at h; rfl
  | .bool a, b, h => by cases b <;> simp [beqD] at h; rw [h]
  | .int a, b, h => by cases b <;> simp [beqD] at h; rw [h]
  | .str a, b, h => by cases b <;> simp [beqD] at h; rw [h]
  | .list a, b, h => by cases b <;> simp [beqD] at h; rw [beqDs_eq h]
  | .tuple a, b, h => by cases b <;> simp [beqD] at h; rw [beqDs_eq h]
  | .dict a, b, h => by cases b <;> simp [beqD] at h
theorem beqDs_eq : ∀ {a b : List D}, beqDs a b = true → a = b
  | [], b, h => by cases b <;> simp [beqDs] at h; rfl
  | x :: r, b, h => by
    cases b with
    | nil => simp [beqDs] at h
    | cons y s =>
      simp only [beqDs, Bool.and_eq_true] at h
      rw [beqD_eq h.1, beqDs_eq h.2]
end
def isUn : Sl → Bool
  | .un => true
  | _ => false
theorem isUn_eq {s : Sl} (h : isUn s = true) : s = .un := by cases s <;> first | rfl | cases h
/-- a call's end, reckoned -/
def isRep (d : D) (k : Nat) : Option (Rv × En) → Bool
  | some (.rep e, o) => beqD e d && decide (o.length = k) && o.all isUn
  | _ => false
def isNew (d : D) (k : Nat) : Option (Rv × En) → Bool
  | some (.new e, o) => beqD e d && decide (o.length = k) && o.all isUn
  | _ => false
theorem uns {k : Nat} {o : En} (h1 : o.length = k) (h2 : o.all isUn = true) : o = List.replicate k .un := by
  refine List.eq_replicate_iff.mpr ⟨h1, fun s hs => isUn_eq (List.all_eq_true.mp h2 s hs)⟩
theorem isRep_eq {d : D} {k : Nat} {x : Option (Rv × En)} (h : isRep d k x = true) : x = some (.rep d, List.replicate k .un) := by
  unfold isRep at h
  split at h
  · simp only [Bool.and_eq_true, decide_eq_true_eq] at h
    rw [beqD_eq h.1.1, uns h.1.2 h.2]
  · cases h
theorem isNew_eq {d : D} {k : Nat} {x : Option (Rv × En)} (h : isNew d k x = true) : x = some (.new d, List.replicate k .un) := by
  unfold isNew at h
  split at h
  · simp only [Bool.and_eq_true, decide_eq_true_eq] at h
    rw [beqD_eq h.1.1, uns h.1.2 h.2]
  · cases h
/-- checked for each number below n -/
def allN (n : Nat) (f : Nat → Bool) : Bool := (List.range n).all f
theorem allN_ok {n : Nat} {f : Nat → Bool} (h : allN n f = true) {i : Nat} (hi : i < n) : f i = true := List.all_eq_true.mp h i (List.mem_range.mpr hi)
end DL
set_option Elab.async false
set_option linter.all false
set_option maxRecDepth 100000
set_option maxHeartbeats 1000000
namespace M44
open PySem PySem.Spec L2 DL
def cnt (n : Nat) : Nat := if n = 0 then 1 else if n % 2 = 1 then cnt (n / 2) else cnt (n / 2) + cnt (n / 2 - 1)
termination_by n
decreasing_by all_goals omega
theorem cnt_0 : cnt 0 = 1 := by rw [cnt]; simp
theorem cnt_odd (m : Nat) : cnt (2 * m + 1) = cnt m := by
  rw [cnt, if_neg (by omega), if_pos (by omega), show (2 * m + 1) / 2 = m by omega]
theorem cnt_even (m : Nat) : cnt (2 * m + 2) = cnt (m + 1) + cnt m := by
  rw [cnt, if_neg (by omega), if_neg (by omega), show (2 * m + 2) / 2 = m + 1 by omega, Nat.add_sub_cancel]
theorem cnt_pos (n : Nat) : 0 < cnt n := by
  induction n using Nat.strongRecOn with
  | ind n ih =>
    rcases Nat.eq_zero_or_pos n with rfl | h
    · rw [cnt_0]; omega
    · obtain ⟨m, rfl | rfl⟩ : ∃ m, n = 2 * m + 1 ∨ n = 2 * m + 2 := ⟨(n - 1) / 2, by omega⟩
      · rw [cnt_odd]; exact ih m (by omega)
      · rw [cnt_even]; have := ih m (by omega); omega
theorem cnt_co (n : Nat) : Nat.gcd (cnt n) (cnt (n + 1)) = 1 := by
  induction n using Nat.strongRecOn with
  | ind n ih =>
    rcases Nat.eq_zero_or_pos n with rfl | h
    · rw [cnt_0]; simp
    · obtain ⟨m, rfl | rfl⟩ : ∃ m, n = 2 * m + 1 ∨ n = 2 * m + 2 := ⟨(n - 1) / 2, by omega⟩
      · rw [show 2 * m + 1 + 1 = 2 * m + 2 by omega, cnt_odd, cnt_even]
        have := ih m (by omega)
        rw [Nat.gcd_add_self_right]; exact this
      · rw [show 2 * m + 2 + 1 = 2 * (m + 1) + 1 by omega, cnt_odd, cnt_even]
        have := ih m (by omega)
        rw [Nat.gcd_comm, Nat.gcd_self_add_right, Nat.gcd_comm]; exact this
theorem cnt_next (n : Nat) : cnt (n + 2) + cnt n = (2 * (cnt n / cnt (n + 1)) + 1) * cnt (n + 1) := by
  induction n using Nat.strongRecOn with
  | ind n ih =>
    obtain ⟨m, rfl | rfl⟩ : ∃ m, n = 2 * m ∨ n = 2 * m + 1 := ⟨n / 2, by omega⟩
    · cases m with
      | zero =>
        have h1 : cnt 1 = 1 := by have := cnt_odd 0; rw [cnt_0] at this; exact this
        have h2 : cnt 2 = 2 := by have := cnt_even 0; rw [h1, cnt_0] at this; exact this
        show cnt 2 + cnt 0 = (2 * (cnt 0 / cnt 1) + 1) * cnt 1
        rw [h2, h1, cnt_0]
      | succ m =>
        have i := ih m (by omega)
        rw [show 2 * (m + 1) + 2 = 2 * (m + 1) + 2 by rfl, cnt_even, show 2 * (m + 1) = 2 * m + 2 by omega, cnt_even, show 2 * m + 2 + 1 = 2 * (m + 1) + 1 by omega, cnt_odd, show m + 1 + 1 = m + 2 by omega]
        have hp := cnt_pos (m + 1)
        rw [Nat.add_comm (cnt (m + 1)) (cnt m), Nat.add_div_right _ hp]
        rw [show (2 * (cnt m / cnt (m + 1)).succ + 1) = (2 * (cnt m / cnt (m + 1)) + 1) + 2 by omega, Nat.add_mul, ← i]
        omega
    · have hp := cnt_pos (m + 1)
      rw [show 2 * m + 1 + 2 = 2 * (m + 1) + 1 by omega, show 2 * m + 1 + 1 = 2 * m + 2 by omega, cnt_odd, cnt_odd, cnt_even, Nat.div_eq_of_lt (by omega)]
      omega
theorem cnt_le (n : Nat) : cnt n ≤ n + 1 := by
  induction n using Nat.strongRecOn with
  | ind n ih =>
    rcases Nat.eq_zero_or_pos n with rfl | h
    · rw [cnt_0]; omega
    · obtain ⟨m, rfl | rfl⟩ : ∃ m, n = 2 * m + 1 ∨ n = 2 * m + 2 := ⟨(n - 1) / 2, by omega⟩
      · rw [cnt_odd]; have := ih m (by omega); omega
      · rw [cnt_even]; have := ih m (by omega); have := ih (m + 1) (by omega); omega
/-- pair payments as the law finds them -/
def parts (f : Nat → List (List Int)) : Nat → List (List Int)
  | 0 => []
  | j + 1 => parts f j ++ f j
def prs : Nat → Nat → Nat → List (List Int)
  | 0, _, _ => []
  | n + 1, a, c => if a = 0 then [[]] else if a < c then [] else
    parts (fun j => if j * c ≤ a then (prs n (a - j * c) (2 * c)).map (((j : Nat) : Int) :: ·) else []) 3
def ppart (n a c j : Nat) : List (List Int) := if j * c ≤ a then (prs n (a - j * c) (2 * c)).map (((j : Nat) : Int) :: ·) else []
theorem prs_ge (n a c : Nat) (h0 : a ≠ 0) (h1 : c ≤ a) : prs (n + 1) a c = parts (ppart n a c) 3 := by
  rw [prs, if_neg h0, if_neg (by omega)]; rfl
theorem parts_len {f : Nat → List (List Int)} {b : Nat} (h : ∀ j, (f j).length ≤ b) : ∀ j, (parts f j).length ≤ j * b
  | 0 => by simp [parts]
  | j + 1 => by
    have := parts_len h j
    have := h j
    rw [parts, List.length_append, Nat.add_mul]; omega
theorem prs_len : ∀ n a c, (prs n a c).length ≤ 3 ^ n
  | 0, _, _ => by simp [prs]
  | n + 1, a, c => by
    have h3 : 0 < 3 ^ n := Nat.pos_of_ne_zero (by simp)
    by_cases h0 : a = 0
    · rw [prs, if_pos h0, Nat.pow_succ]; simp only [List.length_cons, List.length_nil]; omega
    · by_cases h1 : a < c
      · rw [prs, if_neg h0, if_pos h1]; simp
      · rw [prs_ge n a c h0 (by omega), Nat.pow_succ, Nat.mul_comm]
        refine parts_len (fun j => ?_) 3
        unfold ppart
        split
        · rw [List.length_map]; exact prs_len n _ _
        · simp
theorem parts_mem {f : Nat → List (List Int)} {r : List Int} : ∀ {j : Nat}, r ∈ parts f j → ∃ i, i < j ∧ r ∈ f i
  | 0, h => by simp [parts] at h
  | j + 1, h => by
    rw [parts, List.mem_append] at h
    rcases h with h | h
    · obtain ⟨i, hi, hr⟩ := parts_mem h; exact ⟨i, by omega, hr⟩
    · exact ⟨j, by omega, h⟩
theorem prs_row : ∀ n a c r, r ∈ prs n a c → r.length ≤ n
  | 0, _, _, r, h => by simp [prs] at h
  | n + 1, a, c, r, h => by
    by_cases h0 : a = 0
    · rw [prs, if_pos h0] at h; simp at h; subst h; simp
    · by_cases h1 : a < c
      · rw [prs, if_neg h0, if_pos h1] at h; simp at h
      · rw [prs_ge n a c h0 (by omega)] at h
        obtain ⟨i, _, hr⟩ := parts_mem h
        unfold ppart at hr
        split at hr
        · obtain ⟨q, hq, rfl⟩ := List.mem_map.mp hr
          have := prs_row n _ _ q hq
          simp only [List.length_cons]; omega
        · simp at hr
/-- lists of lists as data -/
abbrev dl (L : List (List Int)) : D := .list (L.map fun r => .list (r.map PyData.int))
abbrev dt (L : List (List Int)) : D := .list (L.map fun r => .tuple (r.map PyData.int))
end M44
set_option Elab.async false
set_option linter.all false
set_option maxRecDepth 100000
set_option maxHeartbeats 4000000
namespace K44
open PySem PySem.Spec L2 DL
def topS (i : Nat) : Stmt := PySem.Challenge.pw_coinwell_k44_whole_coins_that_double.main.body.getD i (.Pass ⟨0, 0, 0, 0⟩)
abbrev s_pair_count : Stmt := topS 1
theorem sc_pair_count : FnScope ["amount", "one", "other", "here"] ["amount"] (defScope s_pair_count) := ⟨rfl, rfl, rfl, by decide +kernel, rfl, by decide +kernel, by decide +kernel⟩
abbrev s_trimmed : Stmt := topS 3
theorem sc_trimmed : FnScope ["told", "size"] ["told"] (defScope s_trimmed) := ⟨rfl, rfl, rfl, by decide +kernel, rfl, by decide +kernel, by decide +kernel⟩
abbrev s_pair_payments : Stmt := topS 2
theorem sc_pair_payments : FnScope ["amount", "found", "left", "here", "told"] ["amount"] (defScope s_pair_payments) := ⟨rfl, rfl, rfl, by decide +kernel, rfl, by decide +kernel, by decide +kernel⟩
abbrev s_fraction_at : Stmt := topS 4
theorem sc_fraction_at : FnScope ["n"] ["n"] (defScope s_fraction_at) := ⟨rfl, rfl, rfl, by decide +kernel, rfl, by decide +kernel, by decide +kernel⟩
abbrev s_place_of : Stmt := topS 5
theorem sc_place_of : FnScope ["one", "p", "q", "bits", "found", "bit"] ["one"] (defScope s_place_of) := ⟨rfl, rfl, rfl, by decide +kernel, rfl, by decide +kernel, by decide +kernel⟩
abbrev s_fraction_behind : Stmt := topS 6
theorem sc_fraction_behind : FnScope ["one", "p", "q"] ["one"] (defScope s_fraction_behind) := ⟨rfl, rfl, rfl, by decide +kernel, rfl, by decide +kernel, by decide +kernel⟩
abbrev s__law_deck : Stmt := topS 8
theorem sc__law_deck : FnScope ["script", "cells", "each", "deck", "seed", "k", "cell", "rest", "turn"] ["script", "cells", "each"] (defScope s__law_deck) := ⟨rfl, rfl, rfl, by decide +kernel, rfl, by decide +kernel, by decide +kernel⟩
abbrev s__law_take : Stmt := topS 9
theorem sc__law_take : FnScope ["deck", "many"] ["deck", "many"] (defScope s__law_take) := ⟨rfl, rfl, rfl, by decide +kernel, rfl, by decide +kernel, by decide +kernel⟩
abbrev s__law_plain : Stmt := topS 10
theorem sc__law_plain : FnScope ["value", "item"] ["value"] (defScope s__law_plain) := ⟨rfl, rfl, rfl, by decide +kernel, rfl, by decide +kernel, by decide +kernel⟩
abbrev s__law_same : Stmt := topS 11
theorem sc__law_same : FnScope ["told", "due"] ["told", "due"] (defScope s__law_same) := ⟨rfl, rfl, rfl, by decide +kernel, rfl, by decide +kernel, by decide +kernel⟩
abbrev s__law_gcd : Stmt := topS 12
theorem sc__law_gcd : FnScope ["a", "b", "one", "other", "turn"] ["a", "b"] (defScope s__law_gcd) := ⟨rfl, rfl, rfl, by decide +kernel, rfl, by decide +kernel, by decide +kernel⟩
abbrev s__law_frac : Stmt := topS 13
theorem sc__law_frac : FnScope ["p", "q", "part"] ["p", "q"] (defScope s__law_frac) := ⟨rfl, rfl, rfl, by decide +kernel, rfl, by decide +kernel, by decide +kernel⟩
abbrev s__law_minus : Stmt := topS 14
theorem sc__law_minus : FnScope ["a", "b"] ["a", "b"] (defScope s__law_minus) := ⟨rfl, rfl, rfl, by decide +kernel, rfl, by decide +kernel, by decide +kernel⟩
abbrev s__law_over : Stmt := topS 15
theorem sc__law_over : FnScope ["a", "b"] ["a", "b"] (defScope s__law_over) := ⟨rfl, rfl, rfl, by decide +kernel, rfl, by decide +kernel, by decide +kernel⟩
abbrev s__law_pairs : Stmt := topS 16
theorem sc__law_pairs : FnScope ["amount", "coin", "found", "many", "rest"] ["amount", "coin"] (defScope s__law_pairs) := ⟨rfl, rfl, rfl, by decide +kernel, rfl, by decide +kernel, by decide +kernel⟩
abbrev s__law_count : Stmt := topS 17
theorem sc__law_count : FnScope ["amount", "half"] ["amount"] (defScope s__law_count) := ⟨rfl, rfl, rfl, by decide +kernel, rfl, by decide +kernel, by decide +kernel⟩
abbrev s__law_behind : Stmt := topS 18
theorem sc__law_behind : FnScope ["one", "whole"] ["one"] (defScope s__law_behind) := ⟨rfl, rfl, rfl, by decide +kernel, rfl, by decide +kernel, by decide +kernel⟩
abbrev s_law : Stmt := topS 19
theorem sc_law : FnScope ["script", "deck", "turn", "amount", "due", "row", "great", "n", "one", "other", "at", "half"] ["script"] (defScope s_law) := ⟨rfl, rfl, rfl, by decide +kernel, rfl, by decide +kernel, by decide +kernel⟩
structure Blt (mg : Str → Option Value) : Prop where
  b_abs : mg "abs" = none
  b_bool : mg "bool" = none
  b_int : mg "int" = none
  b_isinstance : mg "isinstance" = none
  b_len : mg "len" = none
  b_list : mg "list" = none
  b_range : mg "range" = none
  b_sorted : mg "sorted" = none
  b_str : mg "str" = none
  b_tuple : mg "tuple" = none
section
variable {P : Program} {w : World} {K : PySem.W.Frag} {mg : Str → Option Value} {base : Heap}
def t_pair_count : M Ct :=
  (seqM (bnd (bnd (dispM (fun ds => .rep (.tuple ds)) (bnd (bnd (cstM (.int 1)) keep) fun d => bnd (bnd (bnd (cstM (.int 0)) keep) fun d => bnd (fun ρ => some ([], ρ)) fun ds => pur (d :: ds)) fun ds => pur (d :: ds))) keep) (unpM (tgTup 2 (tgCons (tgM 1) (tgCons (tgM 2) tgNil))))) (seqM (bnd (nameM 0) (asgM 3)) (seqM (whileM (boolM (opM (gCI fun i j => decide (j < i)) (nameM 3) (cstM (.int 0)))) (bnd (boolM (opM (gEq false) (opM gMod (nameM 3) (cstM (.int 2))) (cstM (.int 1)))) fun b => if b = true then (bnd (bnd (bnd (opM gAdd (nameM 1) (nameM 2)) keep) fun d => bnd (bnd (bnd (nameM 2) keep) fun d => bnd (bnd (bnd (opM gDiv (opM gSub (nameM 3) (cstM (.int 1))) (cstM (.int 2))) keep) fun d => bnd (fun ρ => some ([], ρ)) fun ds => pur (d :: ds)) fun ds => pur (d :: ds)) fun ds => pur (d :: ds)) (setAll [1, 2, 3])) else (bnd (bnd (bnd (nameM 1) keep) fun d => bnd (bnd (bnd (opM gAdd (nameM 1) (nameM 2)) keep) fun d => bnd (bnd (bnd (opM gDiv (nameM 3) (cstM (.int 2))) keep) fun d => bnd (fun ρ => some ([], ρ)) fun ds => pur (d :: ds)) fun ds => pur (d :: ds)) fun ds => pur (d :: ds)) (setAll [1, 2, 3]))) 2000000) (bnd (nameM 1) retM))))
def φ_pair_count : Fn := fnM (([1] ++ ([2] ++ [])) ++ ([3] ++ (([1, 2, 3] ++ [1, 2, 3]) ++ []))) 4 t_pair_count
def t_trimmed : M Ct :=
  (seqM (bnd (oneM gLen (nameM 0)) (asgM 1)) (seqM (whileM (bnd (boolM (opM (gCI fun i j => decide (j < i)) (nameM 1) (cstM (.int 0)))) fun b => if b = true then (boolM (opM (gEq false) (opM gIx (nameM 0) (opM gSub (nameM 1) (cstM (.int 1)))) (cstM (.int 0)))) else pur false) (bnd (opM gSub (nameM 1) (cstM (.int 1))) (asgM 1)) 2000000) (bnd (slM (nameM 0) poN (poS (nameM 1))) retM)))
def φ_trimmed : Fn := fnM ([1] ++ ([1] ++ [])) 2 t_trimmed
def t_pair_payments : M Ct :=
  (seqM (bnd (dispM (fun ds => .new (.list ds)) (fun ρ => some ([], ρ))) (asgM 1)) (seqM (bnd (dispM (fun ds => .new (.list ds)) (bnd (bnd (dispM (fun ds => .rep (.tuple ds)) (bnd (bnd (nameM 0) keep) fun d => bnd (bnd (bnd (dispM (fun ds => .rep (.tuple ds)) (fun ρ => some ([], ρ))) keep) fun d => bnd (fun ρ => some ([], ρ)) fun ds => pur (d :: ds)) fun ds => pur (d :: ds))) keep) fun d => bnd (fun ρ => some ([], ρ)) fun ds => pur (d :: ds))) (asgM 2)) (seqM (whileM (truM (nameM 2)) (seqM (bnd (bnd (muM 2 gPop (fun ρ => some ([], ρ))) keep) (unpM (tgTup 2 (tgCons (tgM 3) (tgCons (tgM 4) tgNil))))) (bnd (boolM (opM (gEq false) (nameM 3) (cstM (.int 0)))) fun b => if b = true then (bnd (muM 1 gAppend (bnd (bnd (callM φ_trimmed (bnd (bnd (nameM 4) (agM false)) fun a => bnd (fun ρ => some ([], ρ)) fun as => pur (a :: as))) keep) fun d => bnd (fun ρ => some ([], ρ)) fun ds => pur (d :: ds))) fun _ => pur .nx) else (bnd (boolM (opM (gEq false) (opM gMod (nameM 3) (cstM (.int 2))) (cstM (.int 1)))) fun b => if b = true then (bnd (muM 2 gAppend (bnd (bnd (dispM (fun ds => .rep (.tuple ds)) (bnd (bnd (opM gDiv (opM gSub (nameM 3) (cstM (.int 1))) (cstM (.int 2))) keep) fun d => bnd (bnd (bnd (opM gAdd (nameM 4) (dispM (fun ds => .rep (.tuple ds)) (bnd (bnd (cstM (.int 1)) keep) fun d => bnd (fun ρ => some ([], ρ)) fun ds => pur (d :: ds)))) keep) fun d => bnd (fun ρ => some ([], ρ)) fun ds => pur (d :: ds)) fun ds => pur (d :: ds))) keep) fun d => bnd (fun ρ => some ([], ρ)) fun ds => pur (d :: ds))) fun _ => pur .nx) else (seqM (bnd (muM 2 gAppend (bnd (bnd (dispM (fun ds => .rep (.tuple ds)) (bnd (bnd (opM gDiv (nameM 3) (cstM (.int 2))) keep) fun d => bnd (bnd (bnd (opM gAdd (nameM 4) (dispM (fun ds => .rep (.tuple ds)) (bnd (bnd (cstM (.int 0)) keep) fun d => bnd (fun ρ => some ([], ρ)) fun ds => pur (d :: ds)))) keep) fun d => bnd (fun ρ => some ([], ρ)) fun ds => pur (d :: ds)) fun ds => pur (d :: ds))) keep) fun d => bnd (fun ρ => some ([], ρ)) fun ds => pur (d :: ds))) fun _ => pur .nx) (bnd (muM 2 gAppend (bnd (bnd (dispM (fun ds => .rep (.tuple ds)) (bnd (bnd (opM gDiv (opM gSub (nameM 3) (cstM (.int 2))) (cstM (.int 2))) keep) fun d => bnd (bnd (bnd (opM gAdd (nameM 4) (dispM (fun ds => .rep (.tuple ds)) (bnd (bnd (cstM (.int 2)) keep) fun d => bnd (fun ρ => some ([], ρ)) fun ds => pur (d :: ds)))) keep) fun d => bnd (fun ρ => some ([], ρ)) fun ds => pur (d :: ds)) fun ds => pur (d :: ds))) keep) fun d => bnd (fun ρ => some ([], ρ)) fun ds => pur (d :: ds))) fun _ => pur .nx))))) 2000000) (bnd (oneM gSorted (nameM 1)) retM))))
def φ_pair_payments : Fn := fnM ([1] ++ ([2] ++ ((([3] ++ ([4] ++ [])) ++ ([] ++ ([] ++ ([] ++ [])))) ++ []))) 5 t_pair_payments
def t_fraction_at : M Ct :=
  (bnd (dispM (fun ds => .rep (.tuple ds)) (bnd (bnd (callM φ_pair_count (bnd (bnd (nameM 0) (agM false)) fun a => bnd (fun ρ => some ([], ρ)) fun as => pur (a :: as))) keep) fun d => bnd (bnd (bnd (callM φ_pair_count (bnd (bnd (opM gAdd (nameM 0) (cstM (.int 1))) (agM false)) fun a => bnd (fun ρ => some ([], ρ)) fun as => pur (a :: as))) keep) fun d => bnd (fun ρ => some ([], ρ)) fun ds => pur (d :: ds)) fun ds => pur (d :: ds))) retM)
def φ_fraction_at : Fn := fnM [] 1 t_fraction_at
def t_place_of : M Ct :=
  (seqM (bnd (bnd (nameM 0) keep) (unpM (tgTup 2 (tgCons (tgM 1) (tgCons (tgM 2) tgNil))))) (seqM (bnd (dispM (fun ds => .new (.list ds)) (fun ρ => some ([], ρ))) (asgM 3)) (seqM (whileM (boolM (opM (gEq true) (nameM 1) (nameM 2))) (bnd (boolM (opM (gCI fun i j => decide (i < j)) (nameM 1) (nameM 2))) fun b => if b = true then (seqM (bnd (muM 3 gAppend (bnd (bnd (cstM (.int 0)) keep) fun d => bnd (fun ρ => some ([], ρ)) fun ds => pur (d :: ds))) fun _ => pur .nx) (bnd (opM gSub (nameM 2) (nameM 1)) (asgM 2))) else (seqM (bnd (muM 3 gAppend (bnd (bnd (cstM (.int 1)) keep) fun d => bnd (fun ρ => some ([], ρ)) fun ds => pur (d :: ds))) fun _ => pur .nx) (bnd (opM gSub (nameM 1) (nameM 2)) (asgM 1)))) 2000000) (seqM (bnd (cstM (.int 1)) (asgM 4)) (seqM (bnd (bnd (bnd (oneM gRev (nameM 3)) keep) fun d => lft (seqOf d)) (forM (tgM 5) (bnd (opM gAdd (opM gMul (cstM (.int 2)) (nameM 4)) (nameM 5)) (asgM 4)))) (bnd (opM gSub (nameM 4) (cstM (.int 1))) retM))))))
def φ_place_of : Fn := fnM (([1] ++ ([2] ++ [])) ++ ([3] ++ ((([] ++ [2]) ++ ([] ++ [1])) ++ ([4] ++ (([5] ++ [4]) ++ []))))) 6 t_place_of
def t_fraction_behind : M Ct :=
  (seqM (bnd (bnd (nameM 0) keep) (unpM (tgTup 2 (tgCons (tgM 1) (tgCons (tgM 2) tgNil))))) (bnd (dispM (fun ds => .rep (.tuple ds)) (bnd (bnd (nameM 2) keep) fun d => bnd (bnd (bnd (opM gSub (opM gMul (opM gAdd (opM gMul (cstM (.int 2)) (opM gDiv (nameM 1) (nameM 2))) (cstM (.int 1))) (nameM 2)) (nameM 1)) keep) fun d => bnd (fun ρ => some ([], ρ)) fun ds => pur (d :: ds)) fun ds => pur (d :: ds))) retM))
def φ_fraction_behind : Fn := fnM (([1] ++ ([2] ++ [])) ++ []) 3 t_fraction_behind
def t__law_deck : M Ct :=
  (seqM (bnd (dispM (fun ds => .new (.list ds)) (fun ρ => some ([], ρ))) (asgM 3)) (seqM (bnd (opM gAdd (cstM (.int 29)) (lenScrM 0)) (asgM 4)) (seqM (bnd (bnd (bnd (bnd (nameM 1) keep) fun d => bnd (fun ρ => some ([], ρ)) fun ds => pur (d :: ds)) fun ds => lft (rng1 ds)) (forM (tgM 5) (seqM (bnd (bnd (boolM (opM (gCI fun i j => decide (i < j)) (nameM 5) (lenScrM 0))) fun b => if b = true then (oneM gInt (ixScrM 0 (nameM 5))) else (cstM (.int 0))) (asgM 6)) (seqM (bnd (opM gMul (oneM gAbs (nameM 6)) (oneM gInt (opM (gCI fun i j => decide (j ≤ i)) (oneM gAbs (nameM 6)) (opM gPow (cstM (.int 10)) (cstM (.int 18)))))) (asgM 7)) (seqM (bnd (opM gMod (oneM gInt (opM gAdd (opM gAdd (opM gAdd (opM gMul (nameM 4) (cstM (.int 48271))) (opM gMul (cstM (.int 3)) (opM gMod (oneM gInt (oneM gAbs (nameM 6))) (cstM (.int 2147483587))))) (oneM gInt (opM (gCI fun i j => decide (i < j)) (nameM 6) (cstM (.int 0))))) (nameM 5))) (cstM (.int 2147483647))) (asgM 4)) (bnd (bnd (bnd (bnd (nameM 2) keep) fun d => bnd (fun ρ => some ([], ρ)) fun ds => pur (d :: ds)) fun ds => lft (rng1 ds)) (forM (tgM 8) (seqM (bnd (opM gMod (oneM gInt (opM gAdd (opM gAdd (opM gMul (nameM 4) (cstM (.int 69621))) (nameM 8)) (cstM (.int 1)))) (cstM (.int 2147483629))) (asgM 4)) (seqM (bnd (muM 3 gAppend (bnd (bnd (opM gMod (oneM gInt (opM gIx (dispM (fun ds => .new (.list ds)) (bnd (bnd (opM gDiv (nameM 4) (cstM (.int 7))) keep) fun d => bnd (bnd (bnd (nameM 7) keep) fun d => bnd (fun ρ => some ([], ρ)) fun ds => pur (d :: ds)) fun ds => pur (d :: ds))) (oneM gInt (opM (gCI fun i j => decide (j < i)) (nameM 7) (cstM (.int 0)))))) (cstM (.int 1000003))) keep) fun d => bnd (fun ρ => some ([], ρ)) fun ds => pur (d :: ds))) fun _ => pur .nx) (bnd (opM gDiv (nameM 7) (cstM (.int 1000003))) (asgM 7))))))))))) (seqM (bnd (muM 3 gReverse (fun ρ => some ([], ρ))) fun _ => pur .nx) (bnd (nameM 3) retM)))))
def φ__law_deck : Fn := fnM ([3] ++ ([4] ++ (([5] ++ ([6] ++ ([7] ++ ([4] ++ ([8] ++ ([4] ++ ([] ++ [7]))))))) ++ ([] ++ [])))) 9 t__law_deck
def t__law_take : M Ct :=
  (bnd (bnd (boolM (opM (gCI fun i j => decide (j < i)) (oneM gLen (nameM 0)) (cstM (.int 0)))) fun b => if b = true then (opM gMod (oneM gInt (muM 0 gPop (fun ρ => some ([], ρ)))) (nameM 1)) else (cstM (.int 0))) retM)
def φ__law_take : Fn := fnM [] 2 t__law_take
def t__law_plain (self : Fn) : M Ct :=
  (seqM (bnd (truM (oneM (gIsi2 "tuple" "list") (nameM 0))) fun b => if b = true then (bnd (opM gAdd (dispM (fun ds => .new (.list ds)) (bnd (bnd (oneM (gIsi "list") (nameM 0)) keep) fun d => bnd (fun ρ => some ([], ρ)) fun ds => pur (d :: ds))) (lcM [1] (bnd (bnd (nameM 0) keep) fun d => lft (seqOf d)) (tgM 1) (pur true) (callM self (bnd (bnd (nameM 1) (agM false)) fun a => bnd (fun ρ => some ([], ρ)) fun as => pur (a :: as))))) retM) else (pur .nx)) (seqM (bnd (bnd (boolM (opM (gIs false) (nameM 0) (cstM .none))) fun b => if b = true then pur true else (truM (oneM (gIsi "bool") (nameM 0)))) fun b => if b = true then (bnd (opM gIx (dispM (fun ds => .new (.list ds)) (bnd (bnd (cstM (.str (Str.ofString "None"))) keep) fun d => bnd (bnd (bnd (cstM (.str (Str.ofString "False"))) keep) fun d => bnd (bnd (bnd (cstM (.str (Str.ofString "True"))) keep) fun d => bnd (fun ρ => some ([], ρ)) fun ds => pur (d :: ds)) fun ds => pur (d :: ds)) fun ds => pur (d :: ds))) (opM gAdd (oneM gInt (opM (gIs true) (nameM 0) (cstM .none))) (oneM gInt (opM (gIs false) (nameM 0) (cstM (.bool true)))))) retM) else (pur .nx)) (bnd (bnd (truM (oneM (gIsi2 "int" "str") (nameM 0))) fun b => if b = true then (dispM (fun ds => .new (.list ds)) (bnd (bnd (oneM (gIsi "str") (nameM 0)) keep) fun d => bnd (bnd (bnd (nameM 0) keep) fun d => bnd (fun ρ => some ([], ρ)) fun ds => pur (d :: ds)) fun ds => pur (d :: ds))) else (cstM (.str (Str.ofString "another")))) retM)))
def φ__law_plain : Nat → Fn
  | 0 => fun _ => none
  | n + 1 => fnM (([] ++ []) ++ (([] ++ []) ++ [])) 2 (t__law_plain (φ__law_plain n))
def t__law_same : M Ct :=
  (bnd (opM (gEq false) (callM (φ__law_plain 6) (bnd (bnd (nameM 0) (agM false)) fun a => bnd (fun ρ => some ([], ρ)) fun as => pur (a :: as))) (callM (φ__law_plain 6) (bnd (bnd (nameM 1) (agM false)) fun a => bnd (fun ρ => some ([], ρ)) fun as => pur (a :: as)))) retM)
def φ__law_same : Fn := fnM [] 2 t__law_same
def t__law_gcd : M Ct :=
  (seqM (bnd (oneM gAbs (nameM 0)) (asgM 2)) (seqM (bnd (oneM gAbs (nameM 1)) (asgM 3)) (seqM (bnd (bnd (bnd (bnd (cstM (.int 400)) keep) fun d => bnd (fun ρ => some ([], ρ)) fun ds => pur (d :: ds)) fun ds => lft (rng1 ds)) (forM (tgM 4) (seqM (bnd (boolM (opM (gEq false) (nameM 3) (cstM (.int 0)))) fun b => if b = true then (pur .bk) else (pur .nx)) (bnd (bnd (bnd (nameM 3) keep) fun d => bnd (bnd (bnd (opM gSub (nameM 2) (opM gMul (nameM 3) (opM gDiv (nameM 2) (nameM 3)))) keep) fun d => bnd (fun ρ => some ([], ρ)) fun ds => pur (d :: ds)) fun ds => pur (d :: ds)) (setAll [2, 3]))))) (bnd (nameM 2) retM))))
def φ__law_gcd : Fn := fnM ([2] ++ ([3] ++ (([4] ++ (([] ++ []) ++ [2, 3])) ++ []))) 5 t__law_gcd
def t__law_frac : M Ct :=
  (seqM (bnd (callM φ__law_gcd (bnd (bnd (nameM 0) (agM false)) fun a => bnd (bnd (bnd (nameM 1) (agM false)) fun a => bnd (fun ρ => some ([], ρ)) fun as => pur (a :: as)) fun as => pur (a :: as))) (asgM 2)) (seqM (bnd (bnd (boolM (opM (gCI fun i j => decide (i < j)) (nameM 1) (cstM (.int 0)))) fun b => if b = true then (oneM gNeg (nameM 2)) else (nameM 2)) (asgM 2)) (bnd (dispM (fun ds => .rep (.tuple ds)) (bnd (bnd (opM gDiv (nameM 0) (nameM 2)) keep) fun d => bnd (bnd (bnd (opM gDiv (nameM 1) (nameM 2)) keep) fun d => bnd (fun ρ => some ([], ρ)) fun ds => pur (d :: ds)) fun ds => pur (d :: ds))) retM)))
def φ__law_frac : Fn := fnM ([2] ++ ([2] ++ [])) 3 t__law_frac
def t__law_minus : M Ct :=
  (bnd (callM φ__law_frac (bnd (bnd (opM gSub (opM gMul (opM gIx (nameM 0) (cstM (.int 0))) (opM gIx (nameM 1) (cstM (.int 1)))) (opM gMul (opM gIx (nameM 1) (cstM (.int 0))) (opM gIx (nameM 0) (cstM (.int 1))))) (agM false)) fun a => bnd (bnd (bnd (opM gMul (opM gIx (nameM 0) (cstM (.int 1))) (opM gIx (nameM 1) (cstM (.int 1)))) (agM false)) fun a => bnd (fun ρ => some ([], ρ)) fun as => pur (a :: as)) fun as => pur (a :: as))) retM)
def φ__law_minus : Fn := fnM [] 2 t__law_minus
def t__law_over : M Ct :=
  (bnd (callM φ__law_frac (bnd (bnd (opM gMul (opM gIx (nameM 0) (cstM (.int 0))) (opM gIx (nameM 1) (cstM (.int 1)))) (agM false)) fun a => bnd (bnd (bnd (opM gMul (opM gIx (nameM 0) (cstM (.int 1))) (opM gIx (nameM 1) (cstM (.int 0)))) (agM false)) fun a => bnd (fun ρ => some ([], ρ)) fun as => pur (a :: as)) fun as => pur (a :: as))) retM)
def φ__law_over : Fn := fnM [] 2 t__law_over
def t__law_pairs (self : Fn) : M Ct :=
  (seqM (bnd (boolM (opM (gEq false) (nameM 0) (cstM (.int 0)))) fun b => if b = true then (bnd (dispM (fun ds => .new (.list ds)) (bnd (bnd (dispM (fun ds => .new (.list ds)) (fun ρ => some ([], ρ))) keep) fun d => bnd (fun ρ => some ([], ρ)) fun ds => pur (d :: ds))) retM) else (pur .nx)) (seqM (bnd (boolM (opM (gCI fun i j => decide (j < i)) (nameM 1) (nameM 0))) fun b => if b = true then (bnd (dispM (fun ds => .new (.list ds)) (fun ρ => some ([], ρ))) retM) else (pur .nx)) (seqM (bnd (dispM (fun ds => .new (.list ds)) (fun ρ => some ([], ρ))) (asgM 2)) (seqM (bnd (bnd (bnd (bnd (cstM (.int 3)) keep) fun d => bnd (fun ρ => some ([], ρ)) fun ds => pur (d :: ds)) fun ds => lft (rng1 ds)) (forM (tgM 3) (bnd (boolM (opM (gCI fun i j => decide (i ≤ j)) (opM gMul (nameM 3) (nameM 1)) (nameM 0))) fun b => if b = true then (bnd (opM gAdd (nameM 2) (lcM [4] (bnd (bnd (callM self (bnd (bnd (opM gSub (nameM 0) (opM gMul (nameM 3) (nameM 1))) (agM false)) fun a => bnd (bnd (bnd (opM gMul (cstM (.int 2)) (nameM 1)) (agM false)) fun a => bnd (fun ρ => some ([], ρ)) fun as => pur (a :: as)) fun as => pur (a :: as))) keep) fun d => lft (seqOf d)) (tgM 4) (pur true) (opM gAdd (dispM (fun ds => .new (.list ds)) (bnd (bnd (nameM 3) keep) fun d => bnd (fun ρ => some ([], ρ)) fun ds => pur (d :: ds))) (nameM 4)))) (asgM 2)) else (pur .nx)))) (bnd (nameM 2) retM)))))
def φ__law_pairs : Nat → Fn
  | 0 => fun _ => none
  | n + 1 => fnM (([] ++ []) ++ (([] ++ []) ++ ([2] ++ (([3] ++ ([2] ++ [])) ++ [])))) 5 (t__law_pairs (φ__law_pairs n))
def t__law_count (self : Fn) : M Ct :=
  (seqM (bnd (boolM (opM (gCI fun i j => decide (i < j)) (nameM 0) (cstM (.int 1)))) fun b => if b = true then (bnd (oneM gInt (opM (gEq false) (nameM 0) (cstM (.int 0)))) retM) else (pur .nx)) (seqM (bnd (opM gDiv (nameM 0) (cstM (.int 2))) (asgM 1)) (seqM (bnd (boolM (opM (gEq false) (opM gSub (nameM 0) (opM gMul (cstM (.int 2)) (nameM 1))) (cstM (.int 1)))) fun b => if b = true then (bnd (callM self (bnd (bnd (nameM 1) (agM false)) fun a => bnd (fun ρ => some ([], ρ)) fun as => pur (a :: as))) retM) else (pur .nx)) (bnd (opM gAdd (callM self (bnd (bnd (nameM 1) (agM false)) fun a => bnd (fun ρ => some ([], ρ)) fun as => pur (a :: as))) (callM self (bnd (bnd (opM gSub (nameM 1) (cstM (.int 1))) (agM false)) fun a => bnd (fun ρ => some ([], ρ)) fun as => pur (a :: as)))) retM))))
def φ__law_count : Nat → Fn
  | 0 => fun _ => none
  | n + 1 => fnM (([] ++ []) ++ ([1] ++ (([] ++ []) ++ []))) 2 (t__law_count (φ__law_count n))
def t__law_behind : M Ct :=
  (seqM (bnd (opM gDiv (opM gIx (nameM 0) (cstM (.int 0))) (opM gIx (nameM 0) (cstM (.int 1)))) (asgM 1)) (bnd (callM φ__law_over (bnd (bnd (dispM (fun ds => .rep (.tuple ds)) (bnd (bnd (cstM (.int 1)) keep) fun d => bnd (bnd (bnd (cstM (.int 1)) keep) fun d => bnd (fun ρ => some ([], ρ)) fun ds => pur (d :: ds)) fun ds => pur (d :: ds))) (agM false)) fun a => bnd (bnd (bnd (callM φ__law_minus (bnd (bnd (dispM (fun ds => .rep (.tuple ds)) (bnd (bnd (opM gAdd (cstM (.int 1)) (opM gMul (cstM (.int 2)) (nameM 1))) keep) fun d => bnd (bnd (bnd (cstM (.int 1)) keep) fun d => bnd (fun ρ => some ([], ρ)) fun ds => pur (d :: ds)) fun ds => pur (d :: ds))) (agM false)) fun a => bnd (bnd (bnd (nameM 0) (agM false)) fun a => bnd (fun ρ => some ([], ρ)) fun as => pur (a :: as)) fun as => pur (a :: as))) (agM false)) fun a => bnd (fun ρ => some ([], ρ)) fun as => pur (a :: as)) fun as => pur (a :: as))) retM))
def φ__law_behind : Fn := fnM ([1] ++ []) 2 t__law_behind
def t_law : M Ct :=
  (seqM (bnd (callM φ__law_deck (bnd (bnd (nameM 0) (agM true)) fun a => bnd (bnd (bnd (cstM (.int 40)) (agM false)) fun a => bnd (bnd (bnd (cstM (.int 14)) (agM false)) fun a => bnd (fun ρ => some ([], ρ)) fun as => pur (a :: as)) fun as => pur (a :: as)) fun as => pur (a :: as))) (asgM 1)) (seqM (bnd (bnd (bnd (bnd (cstM (.int 3)) keep) fun d => bnd (fun ρ => some ([], ρ)) fun ds => pur (d :: ds)) fun ds => lft (rng1 ds)) (forM (tgM 2) (seqM (bnd (callIO 1 φ__law_take (bnd (bnd (cstM (.int 61)) (agM false)) fun a => bnd (fun ρ => some ([], ρ)) fun as => pur (a :: as))) (asgM 3)) (seqM (bnd (oneM gSorted (lcM [5] (bnd (bnd (callM (φ__law_pairs 9) (bnd (bnd (nameM 3) (agM false)) fun a => bnd (bnd (bnd (cstM (.int 1)) (agM false)) fun a => bnd (fun ρ => some ([], ρ)) fun as => pur (a :: as)) fun as => pur (a :: as))) keep) fun d => lft (seqOf d)) (tgM 5) (pur true) (oneM gTupOf (nameM 5)))) (asgM 4)) (seqM (bnd (bnd (bnd (truM (callM φ__law_same (bnd (bnd (dispM (fun ds => .new (.list ds)) (bnd (bnd (callM φ_pair_payments (bnd (bnd (nameM 3) (agM false)) fun a => bnd (fun ρ => some ([], ρ)) fun as => pur (a :: as))) keep) fun d => bnd (bnd (bnd (callM φ_pair_count (bnd (bnd (nameM 3) (agM false)) fun a => bnd (fun ρ => some ([], ρ)) fun as => pur (a :: as))) keep) fun d => bnd (fun ρ => some ([], ρ)) fun ds => pur (d :: ds)) fun ds => pur (d :: ds))) (agM false)) fun a => bnd (bnd (bnd (dispM (fun ds => .new (.list ds)) (bnd (bnd (nameM 4) keep) fun d => bnd (bnd (bnd (oneM gLen (nameM 4)) keep) fun d => bnd (fun ρ => some ([], ρ)) fun ds => pur (d :: ds)) fun ds => pur (d :: ds))) (agM false)) fun a => bnd (fun ρ => some ([], ρ)) fun as => pur (a :: as)) fun as => pur (a :: as)))) fun b => pur (!b)) fun b => if b = true then pur true else (boolM (opM (gEq true) (callM (φ__law_count 24) (bnd (bnd (nameM 3) (agM false)) fun a => bnd (fun ρ => some ([], ρ)) fun as => pur (a :: as))) (oneM gLen (nameM 4))))) fun b => if b = true then (bnd (cstM (.bool false)) retM) else (pur .nx)) (seqM (bnd (callIO 1 φ__law_take (bnd (bnd (opM gPow (cstM (.int 10)) (cstM (.int 6))) (agM false)) fun a => bnd (fun ρ => some ([], ρ)) fun as => pur (a :: as))) (asgM 6)) (seqM (bnd (boolM (opM (gEq true) (callM φ_pair_count (bnd (bnd (nameM 6) (agM false)) fun a => bnd (fun ρ => some ([], ρ)) fun as => pur (a :: as))) (callM (φ__law_count 24) (bnd (bnd (nameM 6) (agM false)) fun a => bnd (fun ρ => some ([], ρ)) fun as => pur (a :: as))))) fun b => if b = true then (bnd (cstM (.bool false)) retM) else (pur .nx)) (seqM (bnd (callIO 1 φ__law_take (bnd (bnd (cstM (.int 5000)) (agM false)) fun a => bnd (fun ρ => some ([], ρ)) fun as => pur (a :: as))) (asgM 7)) (seqM (bnd (callM φ_fraction_at (bnd (bnd (nameM 7) (agM false)) fun a => bnd (fun ρ => some ([], ρ)) fun as => pur (a :: as))) (asgM 8)) (seqM (bnd (bnd (boolM (opM (gEq true) (nameM 8) (dispM (fun ds => .rep (.tuple ds)) (bnd (bnd (callM φ_pair_count (bnd (bnd (nameM 7) (agM false)) fun a => bnd (fun ρ => some ([], ρ)) fun as => pur (a :: as))) keep) fun d => bnd (bnd (bnd (callM φ_pair_count (bnd (bnd (opM gAdd (nameM 7) (cstM (.int 1))) (agM false)) fun a => bnd (fun ρ => some ([], ρ)) fun as => pur (a :: as))) keep) fun d => bnd (fun ρ => some ([], ρ)) fun ds => pur (d :: ds)) fun ds => pur (d :: ds))))) fun b => if b = true then pur true else (boolM (opM (gEq true) (callM φ__law_gcd (bnd (bnd (opM gIx (nameM 8) (cstM (.int 0))) (agM false)) fun a => bnd (bnd (bnd (opM gIx (nameM 8) (cstM (.int 1))) (agM false)) fun a => bnd (fun ρ => some ([], ρ)) fun as => pur (a :: as)) fun as => pur (a :: as))) (cstM (.int 1))))) fun b => if b = true then (bnd (cstM (.bool false)) retM) else (pur .nx)) (seqM (bnd (bnd (boolM (opM (gEq true) (callM φ_fraction_at (bnd (bnd (opM gAdd (nameM 7) (cstM (.int 1))) (agM false)) fun a => bnd (fun ρ => some ([], ρ)) fun as => pur (a :: as))) (callM φ__law_behind (bnd (bnd (nameM 8) (agM false)) fun a => bnd (fun ρ => some ([], ρ)) fun as => pur (a :: as))))) fun b => if b = true then pur true else (boolM (opM (gEq true) (callM φ_fraction_behind (bnd (bnd (nameM 8) (agM false)) fun a => bnd (fun ρ => some ([], ρ)) fun as => pur (a :: as))) (callM φ__law_behind (bnd (bnd (nameM 8) (agM false)) fun a => bnd (fun ρ => some ([], ρ)) fun as => pur (a :: as)))))) fun b => if b = true then (bnd (cstM (.bool false)) retM) else (pur .nx)) (seqM (bnd (callM φ__law_frac (bnd (bnd (opM gAdd (cstM (.int 1)) (callIO 1 φ__law_take (bnd (bnd (cstM (.int 8)) (agM false)) fun a => bnd (fun ρ => some ([], ρ)) fun as => pur (a :: as)))) (agM false)) fun a => bnd (bnd (bnd (opM gAdd (cstM (.int 1)) (callIO 1 φ__law_take (bnd (bnd (cstM (.int 8)) (agM false)) fun a => bnd (fun ρ => some ([], ρ)) fun as => pur (a :: as)))) (agM false)) fun a => bnd (fun ρ => some ([], ρ)) fun as => pur (a :: as)) fun as => pur (a :: as))) (asgM 9)) (seqM (bnd (callM φ_place_of (bnd (bnd (nameM 9) (agM false)) fun a => bnd (fun ρ => some ([], ρ)) fun as => pur (a :: as))) (asgM 10)) (seqM (bnd (bnd (boolM (opM (gCI fun i j => decide (i < j)) (nameM 10) (cstM (.int 0)))) fun b => if b = true then pur true else (bnd (boolM (opM (gCI fun i j => decide (i < j)) (nameM 10) (opM gPow (cstM (.int 10)) (cstM (.int 6))))) fun b => if b = true then (boolM (opM (gEq true) (callM φ_fraction_at (bnd (bnd (nameM 10) (agM false)) fun a => bnd (fun ρ => some ([], ρ)) fun as => pur (a :: as))) (nameM 9))) else pur false)) fun b => if b = true then (bnd (cstM (.bool false)) retM) else (pur .nx)) (seqM (bnd (opM gAdd (cstM (.int 1)) (callIO 1 φ__law_take (bnd (bnd (cstM (.int 400)) (agM false)) fun a => bnd (fun ρ => some ([], ρ)) fun as => pur (a :: as)))) (asgM 11)) (bnd (bnd (boolM (opM (gEq true) (callM φ_pair_count (bnd (bnd (opM gMul (cstM (.int 2)) (nameM 11)) (agM false)) fun a => bnd (fun ρ => some ([], ρ)) fun as => pur (a :: as))) (opM gAdd (callM φ_pair_count (bnd (bnd (nameM 11) (agM false)) fun a => bnd (fun ρ => some ([], ρ)) fun as => pur (a :: as))) (callM φ_pair_count (bnd (bnd (opM gSub (nameM 11) (cstM (.int 1))) (agM false)) fun a => bnd (fun ρ => some ([], ρ)) fun as => pur (a :: as)))))) fun b => if b = true then pur true else (boolM (opM (gEq true) (callM φ_pair_count (bnd (bnd (opM gAdd (opM gMul (cstM (.int 2)) (nameM 11)) (cstM (.int 1))) (agM false)) fun a => bnd (fun ρ => some ([], ρ)) fun as => pur (a :: as))) (callM φ_pair_count (bnd (bnd (nameM 11) (agM false)) fun a => bnd (fun ρ => some ([], ρ)) fun as => pur (a :: as)))))) fun b => if b = true then (bnd (cstM (.bool false)) retM) else (pur .nx))))))))))))))))) (bnd (cstM (.bool true)) retM)))
def φ_law : Fn := fnM ([1] ++ (([2] ++ ([3] ++ ([4] ++ (([] ++ []) ++ ([6] ++ (([] ++ []) ++ ([7] ++ ([8] ++ (([] ++ []) ++ (([] ++ []) ++ ([9] ++ ([10] ++ (([] ++ []) ++ ([11] ++ ([] ++ []))))))))))))))) ++ [])) 12 t_law
theorem d_pair_count (B : Blt mg)  {f : Addr} {fd : FuncData} (F : Fun K "pair_count" "pair_count" s_pair_count f fd) (hm : mg "pair_count" = some (.ref f)) : FnD P w K mg base "pair_count" 1 1 φ_pair_count :=
  fn_mk F sc_pair_count hm (F.binds fun _ _ _ _ _ _ us hl => match us, hl with | [_], _ => rfl) fun cdv Ar outer s H E hr C =>
    (dss_cons (ds_unp (dx_tuple (da_cons dx_int (da_cons dx_int da_nil))) (dg_tup C.calm (dgs_cons (dg_name 1 C.nd) (dgs_cons (dg_name 2 C.nd) dgs_nil)))) (dss_cons (ds_set 3 C (dx_name 0)) (dss_cons (ds_while 2000000 C (dt_cmp opd_gt (dx_name 3) dx_int) (dss_one (ds_if (dt_cmp (opd_eq C) (dx_op opd_mod (dx_name 3) dx_int) dx_int) (dss_one (ds_par3 1 2 3 C (da_cons (dx_op opd_add (dx_name 1) (dx_name 2)) (da_cons (dx_name 2) (da_cons (dx_op opd_div (dx_op opd_sub (dx_name 3) dx_int) dx_int) da_nil))))) (dss_one (ds_par3 1 2 3 C (da_cons (dx_name 1) (da_cons (dx_op opd_add (dx_name 1) (dx_name 2)) (da_cons (dx_op opd_div (dx_name 3) dx_int) da_nil)))))))) (dss_one (ds_ret (dx_name 1))))))
theorem d_trimmed (B : Blt mg)  {f : Addr} {fd : FuncData} (F : Fun K "trimmed" "trimmed" s_trimmed f fd) (hm : mg "trimmed" = some (.ref f)) : FnD P w K mg base "trimmed" 1 1 φ_trimmed :=
  fn_mk F sc_trimmed hm (F.binds fun _ _ _ _ _ _ us hl => match us, hl with | [_], _ => rfl) fun cdv Ar outer s H E hr C =>
    (dss_cons (ds_set 1 C (dx_b1 c1_len B.b_len (dx_name 0))) (dss_cons (ds_while 2000000 C (dw_and (dt_cmp opd_gt (dx_name 1) dx_int) (dw_and1 (dt_cmp (opd_eq C) (dx_ix (dx_name 0) (dx_op opd_sub (dx_name 1) dx_int)) dx_int))).dt (dss_one (ds_set 1 C (dx_op opd_sub (dx_name 1) dx_int)))) (dss_one (ds_ret (dx_slice (dx_name 0) po_n (po_s (dx_name 1)))))))
theorem d_pair_payments (B : Blt mg) (G_trimmed : FnD P w K mg base "trimmed" 1 1 φ_trimmed) {f : Addr} {fd : FuncData} (F : Fun K "pair_payments" "pair_payments" s_pair_payments f fd) (hm : mg "pair_payments" = some (.ref f)) : FnD P w K mg base "pair_payments" 2 1 φ_pair_payments :=
  fn_mk F sc_pair_payments hm (F.binds fun _ _ _ _ _ _ us hl => match us, hl with | [_], _ => rfl) fun cdv Ar outer s H E hr C =>
    (dss_cons (ds_set 1 C (dx_list da_nil)) (dss_cons (ds_set 2 C (dx_list (da_cons (dx_tuple (da_cons (dx_name 0) (da_cons (dx_tuple da_nil) da_nil))) da_nil))) (dss_cons (ds_while 2000000 C (dt_val (dx_name 2)) (dss_cons (ds_unp (dx_mu0 2 PySem.F.plainAttrs_list PySem.F.slot_list_pop PySem.F.type_list_pop mu_pop) (dg_tup C.calm (dgs_cons (dg_name 3 C.nd) (dgs_cons (dg_name 4 C.nd) dgs_nil)))) (dss_one (ds_if (dt_cmp (opd_eq C) (dx_name 3) dx_int) (dss_one (ds_expr (dx_mu 1 PySem.F.plainAttrs_list PySem.F.slot_list_append PySem.F.type_list_append mu_append (da_cons (dx_call G_trimmed (hr.mono (by show _ ≤ 1; omega)) pass0 (ag_cons false (dx_name 4) ag_nil)) da_nil)))) (dss_one (ds_if (dt_cmp (opd_eq C) (dx_op opd_mod (dx_name 3) dx_int) dx_int) (dss_one (ds_expr (dx_mu 2 PySem.F.plainAttrs_list PySem.F.slot_list_append PySem.F.type_list_append mu_append (da_cons (dx_tuple (da_cons (dx_op opd_div (dx_op opd_sub (dx_name 3) dx_int) dx_int) (da_cons (dx_op opd_add (dx_name 4) (dx_tuple (da_cons dx_int da_nil))) da_nil))) da_nil)))) (dss_cons (ds_expr (dx_mu 2 PySem.F.plainAttrs_list PySem.F.slot_list_append PySem.F.type_list_append mu_append (da_cons (dx_tuple (da_cons (dx_op opd_div (dx_name 3) dx_int) (da_cons (dx_op opd_add (dx_name 4) (dx_tuple (da_cons dx_int da_nil))) da_nil))) da_nil))) (dss_one (ds_expr (dx_mu 2 PySem.F.plainAttrs_list PySem.F.slot_list_append PySem.F.type_list_append mu_append (da_cons (dx_tuple (da_cons (dx_op opd_div (dx_op opd_sub (dx_name 3) dx_int) dx_int) (da_cons (dx_op opd_add (dx_name 4) (dx_tuple (da_cons dx_int da_nil))) da_nil))) da_nil))))))))))) (dss_one (ds_ret (dx_b1 (c1_sorted C) B.b_sorted (dx_name 1)))))))
theorem d_fraction_at (B : Blt mg) (G_pair_count : FnD P w K mg base "pair_count" 1 1 φ_pair_count) {f : Addr} {fd : FuncData} (F : Fun K "fraction_at" "fraction_at" s_fraction_at f fd) (hm : mg "fraction_at" = some (.ref f)) : FnD P w K mg base "fraction_at" 2 1 φ_fraction_at :=
  fn_mk F sc_fraction_at hm (F.binds fun _ _ _ _ _ _ us hl => match us, hl with | [_], _ => rfl) fun cdv Ar outer s H E hr C =>
    (dss_one (ds_ret (dx_tuple (da_cons (dx_call G_pair_count (hr.mono (by show _ ≤ 1; omega)) pass0 (ag_cons false (dx_name 0) ag_nil)) (da_cons (dx_call G_pair_count (hr.mono (by show _ ≤ 1; omega)) pass0 (ag_cons false (dx_op opd_add (dx_name 0) dx_int) ag_nil)) da_nil)))))
theorem d_place_of (B : Blt mg)  {f : Addr} {fd : FuncData} (F : Fun K "place_of" "place_of" s_place_of f fd) (hm : mg "place_of" = some (.ref f)) : FnD P w K mg base "place_of" 1 1 φ_place_of :=
  fn_mk F sc_place_of hm (F.binds fun _ _ _ _ _ _ us hl => match us, hl with | [_], _ => rfl) fun cdv Ar outer s H E hr C =>
    (dss_cons (ds_unp (dx_name 0) (dg_tup C.calm (dgs_cons (dg_name 1 C.nd) (dgs_cons (dg_name 2 C.nd) dgs_nil)))) (dss_cons (ds_set 3 C (dx_list da_nil)) (dss_cons (ds_while 2000000 C (dt_cmp (opd_ne C) (dx_name 1) (dx_name 2)) (dss_one (ds_if (dt_cmp opd_lt (dx_name 1) (dx_name 2)) (dss_cons (ds_expr (dx_mu 3 PySem.F.plainAttrs_list PySem.F.slot_list_append PySem.F.type_list_append mu_append (da_cons dx_int da_nil))) (dss_one (ds_set 2 C (dx_op opd_sub (dx_name 2) (dx_name 1))))) (dss_cons (ds_expr (dx_mu 3 PySem.F.plainAttrs_list PySem.F.slot_list_append PySem.F.type_list_append mu_append (da_cons dx_int da_nil))) (dss_one (ds_set 1 C (dx_op opd_sub (dx_name 1) (dx_name 2)))))))) (dss_cons (ds_set 4 C dx_int) (dss_cons (ds_for C (di_seq (dx_rev C (dx_name 3))) (dg_name 5 C.nd) (dss_one (ds_set 4 C (dx_op opd_add (dx_op opd_mul dx_int (dx_name 4)) (dx_name 5))))) (dss_one (ds_ret (dx_op opd_sub (dx_name 4) dx_int))))))))
theorem d_fraction_behind (B : Blt mg)  {f : Addr} {fd : FuncData} (F : Fun K "fraction_behind" "fraction_behind" s_fraction_behind f fd) (hm : mg "fraction_behind" = some (.ref f)) : FnD P w K mg base "fraction_behind" 1 1 φ_fraction_behind :=
  fn_mk F sc_fraction_behind hm (F.binds fun _ _ _ _ _ _ us hl => match us, hl with | [_], _ => rfl) fun cdv Ar outer s H E hr C =>
    (dss_cons (ds_unp (dx_name 0) (dg_tup C.calm (dgs_cons (dg_name 1 C.nd) (dgs_cons (dg_name 2 C.nd) dgs_nil)))) (dss_one (ds_ret (dx_tuple (da_cons (dx_name 2) (da_cons (dx_op opd_sub (dx_op opd_mul (dx_op opd_add (dx_op opd_mul dx_int (dx_op opd_div (dx_name 1) (dx_name 2))) dx_int) (dx_name 2)) (dx_name 1)) da_nil))))))
theorem d__law_deck (B : Blt mg)  {f : Addr} {fd : FuncData} (F : Fun K "_law_deck" "_law_deck" s__law_deck f fd) (hm : mg "_law_deck" = some (.ref f)) : FnD P w K mg base "_law_deck" 1 3 φ__law_deck :=
  fn_mk F sc__law_deck hm (F.binds fun _ _ _ _ _ _ us hl => match us, hl with | [_, _, _], _ => rfl) fun cdv Ar outer s H E hr C =>
    (dss_cons (ds_set 3 C (dx_list da_nil)) (dss_cons (ds_set 4 C (dx_op opd_add dx_int (dx_lenScr 0 B.b_len))) (dss_cons (ds_for C (di_range1 B.b_range (da_cons (dx_name 1) da_nil)) (dg_name 5 C.nd) (dss_cons (ds_set 6 C (dx_if (dt_cmp opd_lt (dx_name 5) (dx_lenScr 0 B.b_len)) (dx_t1 c1_int B.b_int (dx_ixScr 0 (dx_name 5))) dx_int)) (dss_cons (ds_set 7 C (dx_op opd_mul (dx_b1 c1_abs B.b_abs (dx_name 6)) (dx_t1 c1_int B.b_int (dx_cmp opd_ge (dx_b1 c1_abs B.b_abs (dx_name 6)) (dx_op opd_pow dx_int dx_int))))) (dss_cons (ds_set 4 C (dx_op opd_mod (dx_t1 c1_int B.b_int (dx_op opd_add (dx_op opd_add (dx_op opd_add (dx_op opd_mul (dx_name 4) dx_int) (dx_op opd_mul dx_int (dx_op opd_mod (dx_t1 c1_int B.b_int (dx_b1 c1_abs B.b_abs (dx_name 6))) dx_int))) (dx_t1 c1_int B.b_int (dx_cmp opd_lt (dx_name 6) dx_int))) (dx_name 5))) dx_int)) (dss_one (ds_for C (di_range1 B.b_range (da_cons (dx_name 2) da_nil)) (dg_name 8 C.nd) (dss_cons (ds_set 4 C (dx_op opd_mod (dx_t1 c1_int B.b_int (dx_op opd_add (dx_op opd_add (dx_op opd_mul (dx_name 4) dx_int) (dx_name 8)) dx_int)) dx_int)) (dss_cons (ds_expr (dx_mu 3 PySem.F.plainAttrs_list PySem.F.slot_list_append PySem.F.type_list_append mu_append (da_cons (dx_op opd_mod (dx_t1 c1_int B.b_int (dx_ix (dx_list (da_cons (dx_op opd_div (dx_name 4) dx_int) (da_cons (dx_name 7) da_nil))) (dx_t1 c1_int B.b_int (dx_cmp opd_gt (dx_name 7) dx_int)))) dx_int) da_nil))) (dss_one (ds_set 7 C (dx_op opd_div (dx_name 7) dx_int))))))))))) (dss_cons (ds_expr (dx_mu0 3 PySem.F.plainAttrs_list PySem.F.slot_list_reverse PySem.F.type_list_reverse mu_reverse)) (dss_one (ds_ret (dx_name 3)))))))
theorem d__law_take (B : Blt mg)  {f : Addr} {fd : FuncData} (F : Fun K "_law_take" "_law_take" s__law_take f fd) (hm : mg "_law_take" = some (.ref f)) : FnD P w K mg base "_law_take" 1 2 φ__law_take :=
  fn_mk F sc__law_take hm (F.binds fun _ _ _ _ _ _ us hl => match us, hl with | [_, _], _ => rfl) fun cdv Ar outer s H E hr C =>
    (dss_one (ds_ret (dx_if (dt_cmp opd_gt (dx_b1 c1_len B.b_len (dx_name 0)) dx_int) (dx_op opd_mod (dx_t1 c1_int B.b_int (dx_mu0 0 PySem.F.plainAttrs_list PySem.F.slot_list_pop PySem.F.type_list_pop mu_pop)) (dx_name 1)) dx_int)))
theorem d__law_plain (B : Blt mg)  {f : Addr} {fd : FuncData} (F : Fun K "_law_plain" "_law_plain" s__law_plain f fd) (hm : mg "_law_plain" = some (.ref f)) : ∀ n : Nat, FnD P w K mg base "_law_plain" (0 + n) 1 (φ__law_plain n)
  | 0 => fn_zero F hm (F.binds fun _ _ _ _ _ _ us hl => match us, hl with | [_], _ => rfl : Binds K fd ["value"] [])
  | n + 1 => by
    have G_self := d__law_plain B  F hm n
    exact fn_mk F sc__law_plain hm (F.binds fun _ _ _ _ _ _ us hl => match us, hl with | [_], _ => rfl) fun cdv Ar outer s H E hr C =>
      (dss_cons (ds_if (dt_val (dx_isi2 B.b_isinstance B.b_tuple B.b_list (dx_name 0))) (dss_one (ds_ret (dx_op opd_add (dx_list (da_cons (dx_isi B.b_isinstance B.b_list (dx_name 0)) da_nil)) (dx_lc (own := [("item", 1)])  C (di_seq (dx_name 0)) (blkOk_by (by show blkC ["value", "item"] (defScope s__law_plain) _ _ = true; decide +kernel)) (fun _ _ _ _ _ C => (dg_name 1 C.nd)) (fun _ _ _ _ _ C => dts_nil) (fun _ _ _ _ _ C => (dx_call G_self (hr.mono (by show _ ≤ 0 + n; omega)) pass0 (ag_cons false (dx_name 1) ag_nil))))))) dss_nil) (dss_cons (ds_if (dw_or (dt_cmp opd_is (dx_name 0) dx_none) (dw_or1 (dt_val (dx_isi B.b_isinstance B.b_bool (dx_name 0))))).dt (dss_one (ds_ret (dx_ix (dx_list (da_cons dx_str (da_cons dx_str (da_cons dx_str da_nil)))) (dx_op opd_add (dx_t1 c1_int B.b_int (dx_cmp opd_isnot (dx_name 0) dx_none)) (dx_t1 c1_int B.b_int (dx_cmp opd_is (dx_name 0) dx_bool)))))) dss_nil) (dss_one (ds_ret (dx_if (dt_val (dx_isi2 B.b_isinstance B.b_int B.b_str (dx_name 0))) (dx_list (da_cons (dx_isi B.b_isinstance B.b_str (dx_name 0)) (da_cons (dx_name 0) da_nil))) dx_str)))))
theorem d__law_same (B : Blt mg) (G__law_plain : FnD P w K mg base "_law_plain" 6 1 (φ__law_plain 6)) {f : Addr} {fd : FuncData} (F : Fun K "_law_same" "_law_same" s__law_same f fd) (hm : mg "_law_same" = some (.ref f)) : FnD P w K mg base "_law_same" 7 2 φ__law_same :=
  fn_mk F sc__law_same hm (F.binds fun _ _ _ _ _ _ us hl => match us, hl with | [_, _], _ => rfl) fun cdv Ar outer s H E hr C =>
    (dss_one (ds_ret (dx_cmp (opd_eq C) (dx_call G__law_plain (hr.mono (by show _ ≤ 6; omega)) pass0 (ag_cons false (dx_name 0) ag_nil)) (dx_call G__law_plain (hr.mono (by show _ ≤ 6; omega)) pass0 (ag_cons false (dx_name 1) ag_nil)))))
theorem d__law_gcd (B : Blt mg)  {f : Addr} {fd : FuncData} (F : Fun K "_law_gcd" "_law_gcd" s__law_gcd f fd) (hm : mg "_law_gcd" = some (.ref f)) : FnD P w K mg base "_law_gcd" 1 2 φ__law_gcd :=
  fn_mk F sc__law_gcd hm (F.binds fun _ _ _ _ _ _ us hl => match us, hl with | [_, _], _ => rfl) fun cdv Ar outer s H E hr C =>
    (dss_cons (ds_set 2 C (dx_b1 c1_abs B.b_abs (dx_name 0))) (dss_cons (ds_set 3 C (dx_b1 c1_abs B.b_abs (dx_name 1))) (dss_cons (ds_for C (di_range1 B.b_range (da_cons dx_int da_nil)) (dg_name 4 C.nd) (dss_cons (ds_if (dt_cmp (opd_eq C) (dx_name 3) dx_int) (dss_one ds_break) dss_nil) (dss_one (ds_par 2 3 C (da_cons (dx_name 3) (da_cons (dx_op opd_sub (dx_name 2) (dx_op opd_mul (dx_name 3) (dx_op opd_div (dx_name 2) (dx_name 3)))) da_nil)))))) (dss_one (ds_ret (dx_name 2))))))
theorem d__law_frac (B : Blt mg) (G__law_gcd : FnD P w K mg base "_law_gcd" 1 2 φ__law_gcd) {f : Addr} {fd : FuncData} (F : Fun K "_law_frac" "_law_frac" s__law_frac f fd) (hm : mg "_law_frac" = some (.ref f)) : FnD P w K mg base "_law_frac" 2 2 φ__law_frac :=
  fn_mk F sc__law_frac hm (F.binds fun _ _ _ _ _ _ us hl => match us, hl with | [_, _], _ => rfl) fun cdv Ar outer s H E hr C =>
    (dss_cons (ds_set 2 C (dx_call G__law_gcd (hr.mono (by show _ ≤ 1; omega)) pass0 (ag_cons false (dx_name 0) (ag_cons false (dx_name 1) ag_nil)))) (dss_cons (ds_set 2 C (dx_if (dt_cmp opd_lt (dx_name 1) dx_int) (dx_neg (dx_name 2)) (dx_name 2))) (dss_one (ds_ret (dx_tuple (da_cons (dx_op opd_div (dx_name 0) (dx_name 2)) (da_cons (dx_op opd_div (dx_name 1) (dx_name 2)) da_nil)))))))
theorem d__law_minus (B : Blt mg) (G__law_frac : FnD P w K mg base "_law_frac" 2 2 φ__law_frac) {f : Addr} {fd : FuncData} (F : Fun K "_law_minus" "_law_minus" s__law_minus f fd) (hm : mg "_law_minus" = some (.ref f)) : FnD P w K mg base "_law_minus" 3 2 φ__law_minus :=
  fn_mk F sc__law_minus hm (F.binds fun _ _ _ _ _ _ us hl => match us, hl with | [_, _], _ => rfl) fun cdv Ar outer s H E hr C =>
    (dss_one (ds_ret (dx_call G__law_frac (hr.mono (by show _ ≤ 2; omega)) pass0 (ag_cons false (dx_op opd_sub (dx_op opd_mul (dx_ix (dx_name 0) dx_int) (dx_ix (dx_name 1) dx_int)) (dx_op opd_mul (dx_ix (dx_name 1) dx_int) (dx_ix (dx_name 0) dx_int))) (ag_cons false (dx_op opd_mul (dx_ix (dx_name 0) dx_int) (dx_ix (dx_name 1) dx_int)) ag_nil)))))
theorem d__law_over (B : Blt mg) (G__law_frac : FnD P w K mg base "_law_frac" 2 2 φ__law_frac) {f : Addr} {fd : FuncData} (F : Fun K "_law_over" "_law_over" s__law_over f fd) (hm : mg "_law_over" = some (.ref f)) : FnD P w K mg base "_law_over" 3 2 φ__law_over :=
  fn_mk F sc__law_over hm (F.binds fun _ _ _ _ _ _ us hl => match us, hl with | [_, _], _ => rfl) fun cdv Ar outer s H E hr C =>
    (dss_one (ds_ret (dx_call G__law_frac (hr.mono (by show _ ≤ 2; omega)) pass0 (ag_cons false (dx_op opd_mul (dx_ix (dx_name 0) dx_int) (dx_ix (dx_name 1) dx_int)) (ag_cons false (dx_op opd_mul (dx_ix (dx_name 0) dx_int) (dx_ix (dx_name 1) dx_int)) ag_nil)))))
theorem d__law_pairs (B : Blt mg)  {f : Addr} {fd : FuncData} (F : Fun K "_law_pairs" "_law_pairs" s__law_pairs f fd) (hm : mg "_law_pairs" = some (.ref f)) : ∀ n : Nat, FnD P w K mg base "_law_pairs" (0 + n) 2 (φ__law_pairs n)
  | 0 => fn_zero F hm (F.binds fun _ _ _ _ _ _ us hl => match us, hl with | [_, _], _ => rfl : Binds K fd ["amount", "coin"] [])
  | n + 1 => by
    have G_self := d__law_pairs B  F hm n
    exact fn_mk F sc__law_pairs hm (F.binds fun _ _ _ _ _ _ us hl => match us, hl with | [_, _], _ => rfl) fun cdv Ar outer s H E hr C =>
      (dss_cons (ds_if (dt_cmp (opd_eq C) (dx_name 0) dx_int) (dss_one (ds_ret (dx_list (da_cons (dx_list da_nil) da_nil)))) dss_nil) (dss_cons (ds_if (dt_cmp opd_gt (dx_name 1) (dx_name 0)) (dss_one (ds_ret (dx_list da_nil))) dss_nil) (dss_cons (ds_set 2 C (dx_list da_nil)) (dss_cons (ds_for C (di_range1 B.b_range (da_cons dx_int da_nil)) (dg_name 3 C.nd) (dss_one (ds_if (dt_cmp opd_le (dx_op opd_mul (dx_name 3) (dx_name 1)) (dx_name 0)) (dss_one (ds_set 2 C (dx_op opd_add (dx_name 2) (dx_lc (own := [("rest", 4)])  C (di_seq (dx_call G_self (hr.mono (by show _ ≤ 0 + n; omega)) pass0 (ag_cons false (dx_op opd_sub (dx_name 0) (dx_op opd_mul (dx_name 3) (dx_name 1))) (ag_cons false (dx_op opd_mul dx_int (dx_name 1)) ag_nil)))) (blkOk_by (by show blkC ["amount", "coin", "found", "many", "rest"] (defScope s__law_pairs) _ _ = true; decide +kernel)) (fun _ _ _ _ _ C => (dg_name 4 C.nd)) (fun _ _ _ _ _ C => dts_nil) (fun _ _ _ _ _ C => (dx_op opd_add (dx_list (da_cons (dx_name 3) da_nil)) (dx_name 4))))))) dss_nil))) (dss_one (ds_ret (dx_name 2)))))))
theorem d__law_count (B : Blt mg)  {f : Addr} {fd : FuncData} (F : Fun K "_law_count" "_law_count" s__law_count f fd) (hm : mg "_law_count" = some (.ref f)) : ∀ n : Nat, FnD P w K mg base "_law_count" (0 + n) 1 (φ__law_count n)
  | 0 => fn_zero F hm (F.binds fun _ _ _ _ _ _ us hl => match us, hl with | [_], _ => rfl : Binds K fd ["amount"] [])
  | n + 1 => by
    have G_self := d__law_count B  F hm n
    exact fn_mk F sc__law_count hm (F.binds fun _ _ _ _ _ _ us hl => match us, hl with | [_], _ => rfl) fun cdv Ar outer s H E hr C =>
      (dss_cons (ds_if (dt_cmp opd_lt (dx_name 0) dx_int) (dss_one (ds_ret (dx_t1 c1_int B.b_int (dx_cmp (opd_eq C) (dx_name 0) dx_int)))) dss_nil) (dss_cons (ds_set 1 C (dx_op opd_div (dx_name 0) dx_int)) (dss_cons (ds_if (dt_cmp (opd_eq C) (dx_op opd_sub (dx_name 0) (dx_op opd_mul dx_int (dx_name 1))) dx_int) (dss_one (ds_ret (dx_call G_self (hr.mono (by show _ ≤ 0 + n; omega)) pass0 (ag_cons false (dx_name 1) ag_nil)))) dss_nil) (dss_one (ds_ret (dx_op opd_add (dx_call G_self (hr.mono (by show _ ≤ 0 + n; omega)) pass0 (ag_cons false (dx_name 1) ag_nil)) (dx_call G_self (hr.mono (by show _ ≤ 0 + n; omega)) pass0 (ag_cons false (dx_op opd_sub (dx_name 1) dx_int) ag_nil))))))))
theorem d__law_behind (B : Blt mg) (G__law_minus : FnD P w K mg base "_law_minus" 3 2 φ__law_minus) (G__law_over : FnD P w K mg base "_law_over" 3 2 φ__law_over) {f : Addr} {fd : FuncData} (F : Fun K "_law_behind" "_law_behind" s__law_behind f fd) (hm : mg "_law_behind" = some (.ref f)) : FnD P w K mg base "_law_behind" 4 1 φ__law_behind :=
  fn_mk F sc__law_behind hm (F.binds fun _ _ _ _ _ _ us hl => match us, hl with | [_], _ => rfl) fun cdv Ar outer s H E hr C =>
    (dss_cons (ds_set 1 C (dx_op opd_div (dx_ix (dx_name 0) dx_int) (dx_ix (dx_name 0) dx_int))) (dss_one (ds_ret (dx_call G__law_over (hr.mono (by show _ ≤ 3; omega)) pass0 (ag_cons false (dx_tuple (da_cons dx_int (da_cons dx_int da_nil))) (ag_cons false (dx_call G__law_minus (hr.mono (by show _ ≤ 3; omega)) pass0 (ag_cons false (dx_tuple (da_cons (dx_op opd_add dx_int (dx_op opd_mul dx_int (dx_name 1))) (da_cons dx_int da_nil))) (ag_cons false (dx_name 0) ag_nil))) ag_nil))))))
theorem d_law (B : Blt mg) (G_pair_count : FnD P w K mg base "pair_count" 1 1 φ_pair_count) (G_pair_payments : FnD P w K mg base "pair_payments" 2 1 φ_pair_payments) (G_fraction_at : FnD P w K mg base "fraction_at" 2 1 φ_fraction_at) (G_place_of : FnD P w K mg base "place_of" 1 1 φ_place_of) (G_fraction_behind : FnD P w K mg base "fraction_behind" 1 1 φ_fraction_behind) (G__law_deck : FnD P w K mg base "_law_deck" 1 3 φ__law_deck) (G__law_take : FnD P w K mg base "_law_take" 1 2 φ__law_take) (G__law_same : FnD P w K mg base "_law_same" 7 2 φ__law_same) (G__law_gcd : FnD P w K mg base "_law_gcd" 1 2 φ__law_gcd) (G__law_frac : FnD P w K mg base "_law_frac" 2 2 φ__law_frac) (G__law_pairs : FnD P w K mg base "_law_pairs" 9 2 (φ__law_pairs 9)) (G__law_count : FnD P w K mg base "_law_count" 24 1 (φ__law_count 24)) (G__law_behind : FnD P w K mg base "_law_behind" 4 1 φ__law_behind) {f : Addr} {fd : FuncData} (F : Fun K "law" "law" s_law f fd) (hm : mg "law" = some (.ref f)) : FnD P w K mg base "law" 25 1 φ_law :=
  fn_mk F sc_law hm (F.binds fun _ _ _ _ _ _ us hl => match us, hl with | [_], _ => rfl) fun cdv Ar outer s H E hr C =>
    (dss_cons (ds_set 1 C (dx_call G__law_deck (hr.mono (by show _ ≤ 24; omega)) pass0 (ag_cons true (dx_name 0) (ag_cons false dx_int (ag_cons false dx_int ag_nil))))) (dss_cons (ds_for C (di_range1 B.b_range (da_cons dx_int da_nil)) (dg_name 2 C.nd) (dss_cons (ds_set 3 C (dx_callIO 1 G__law_take (hr.mono (by show _ ≤ 24; omega)) pass0 (ag_cons false dx_int ag_nil))) (dss_cons (ds_set 4 C (dx_b1 (c1_sorted C) B.b_sorted (dx_lc (own := [("row", 5)])  C (di_seq (dx_call G__law_pairs (hr.mono (by show _ ≤ 24; omega)) pass0 (ag_cons false (dx_name 3) (ag_cons false dx_int ag_nil)))) (blkOk_by (by show blkC ["script", "deck", "turn", "amount", "due", "row", "great", "n", "one", "other", "at", "half"] (defScope s_law) _ _ = true; decide +kernel)) (fun _ _ _ _ _ C => (dg_name 5 C.nd)) (fun _ _ _ _ _ C => dts_nil) (fun _ _ _ _ _ C => (dx_t1 c1_tuple B.b_tuple (dx_name 5)))))) (dss_cons (ds_if (dw_or (dt_not (dt_val (dx_call G__law_same (hr.mono (by show _ ≤ 24; omega)) pass0 (ag_cons false (dx_list (da_cons (dx_call G_pair_payments (hr.mono (by show _ ≤ 24; omega)) pass0 (ag_cons false (dx_name 3) ag_nil)) (da_cons (dx_call G_pair_count (hr.mono (by show _ ≤ 24; omega)) pass0 (ag_cons false (dx_name 3) ag_nil)) da_nil))) (ag_cons false (dx_list (da_cons (dx_name 4) (da_cons (dx_b1 c1_len B.b_len (dx_name 4)) da_nil))) ag_nil))))) (dw_or1 (dt_cmp (opd_ne C) (dx_call G__law_count (hr.mono (by show _ ≤ 24; omega)) pass0 (ag_cons false (dx_name 3) ag_nil)) (dx_b1 c1_len B.b_len (dx_name 4))))).dt (dss_one (ds_ret dx_bool)) dss_nil) (dss_cons (ds_set 6 C (dx_callIO 1 G__law_take (hr.mono (by show _ ≤ 24; omega)) pass0 (ag_cons false (dx_op opd_pow dx_int dx_int) ag_nil))) (dss_cons (ds_if (dt_cmp (opd_ne C) (dx_call G_pair_count (hr.mono (by show _ ≤ 24; omega)) pass0 (ag_cons false (dx_name 6) ag_nil)) (dx_call G__law_count (hr.mono (by show _ ≤ 24; omega)) pass0 (ag_cons false (dx_name 6) ag_nil))) (dss_one (ds_ret dx_bool)) dss_nil) (dss_cons (ds_set 7 C (dx_callIO 1 G__law_take (hr.mono (by show _ ≤ 24; omega)) pass0 (ag_cons false dx_int ag_nil))) (dss_cons (ds_set 8 C (dx_call G_fraction_at (hr.mono (by show _ ≤ 24; omega)) pass0 (ag_cons false (dx_name 7) ag_nil))) (dss_cons (ds_if (dw_or (dt_cmp (opd_ne C) (dx_name 8) (dx_tuple (da_cons (dx_call G_pair_count (hr.mono (by show _ ≤ 24; omega)) pass0 (ag_cons false (dx_name 7) ag_nil)) (da_cons (dx_call G_pair_count (hr.mono (by show _ ≤ 24; omega)) pass0 (ag_cons false (dx_op opd_add (dx_name 7) dx_int) ag_nil)) da_nil)))) (dw_or1 (dt_cmp (opd_ne C) (dx_call G__law_gcd (hr.mono (by show _ ≤ 24; omega)) pass0 (ag_cons false (dx_ix (dx_name 8) dx_int) (ag_cons false (dx_ix (dx_name 8) dx_int) ag_nil))) dx_int))).dt (dss_one (ds_ret dx_bool)) dss_nil) (dss_cons (ds_if (dw_or (dt_cmp (opd_ne C) (dx_call G_fraction_at (hr.mono (by show _ ≤ 24; omega)) pass0 (ag_cons false (dx_op opd_add (dx_name 7) dx_int) ag_nil)) (dx_call G__law_behind (hr.mono (by show _ ≤ 24; omega)) pass0 (ag_cons false (dx_name 8) ag_nil))) (dw_or1 (dt_cmp (opd_ne C) (dx_call G_fraction_behind (hr.mono (by show _ ≤ 24; omega)) pass0 (ag_cons false (dx_name 8) ag_nil)) (dx_call G__law_behind (hr.mono (by show _ ≤ 24; omega)) pass0 (ag_cons false (dx_name 8) ag_nil))))).dt (dss_one (ds_ret dx_bool)) dss_nil) (dss_cons (ds_set 9 C (dx_call G__law_frac (hr.mono (by show _ ≤ 24; omega)) pass0 (ag_cons false (dx_op opd_add dx_int (dx_callIO 1 G__law_take (hr.mono (by show _ ≤ 24; omega)) pass0 (ag_cons false dx_int ag_nil))) (ag_cons false (dx_op opd_add dx_int (dx_callIO 1 G__law_take (hr.mono (by show _ ≤ 24; omega)) pass0 (ag_cons false dx_int ag_nil))) ag_nil)))) (dss_cons (ds_set 10 C (dx_call G_place_of (hr.mono (by show _ ≤ 24; omega)) pass0 (ag_cons false (dx_name 9) ag_nil))) (dss_cons (ds_if (dw_or (dt_cmp opd_lt (dx_name 10) dx_int) (dw_or1 (dw_and (dt_cmp opd_lt (dx_name 10) (dx_op opd_pow dx_int dx_int)) (dw_and1 (dt_cmp (opd_ne C) (dx_call G_fraction_at (hr.mono (by show _ ≤ 24; omega)) pass0 (ag_cons false (dx_name 10) ag_nil)) (dx_name 9)))).dt)).dt (dss_one (ds_ret dx_bool)) dss_nil) (dss_cons (ds_set 11 C (dx_op opd_add dx_int (dx_callIO 1 G__law_take (hr.mono (by show _ ≤ 24; omega)) pass0 (ag_cons false dx_int ag_nil)))) (dss_one (ds_if (dw_or (dt_cmp (opd_ne C) (dx_call G_pair_count (hr.mono (by show _ ≤ 24; omega)) pass0 (ag_cons false (dx_op opd_mul dx_int (dx_name 11)) ag_nil)) (dx_op opd_add (dx_call G_pair_count (hr.mono (by show _ ≤ 24; omega)) pass0 (ag_cons false (dx_name 11) ag_nil)) (dx_call G_pair_count (hr.mono (by show _ ≤ 24; omega)) pass0 (ag_cons false (dx_op opd_sub (dx_name 11) dx_int) ag_nil)))) (dw_or1 (dt_cmp (opd_ne C) (dx_call G_pair_count (hr.mono (by show _ ≤ 24; omega)) pass0 (ag_cons false (dx_op opd_add (dx_op opd_mul dx_int (dx_name 11)) dx_int) ag_nil)) (dx_call G_pair_count (hr.mono (by show _ ≤ 24; omega)) pass0 (ag_cons false (dx_name 11) ag_nil))))).dt (dss_one (ds_ret dx_bool)) dss_nil)))))))))))))))) (dss_one (ds_ret dx_bool))))
end
theorem all_mk {l : PySem.W.OpenLaw} {w : World} {K : PySem.W.Frag} {h : Heap} {mg : Str → Option Value} {fa : Addr} (X : K.In h) (G : h.Ns mainGlobals mg) (hfa : mg "law" = some (.ref fa))
    {f0 : Addr} {od0 an0 : Option Addr} {sl0 : Array (Option Value)} {oc0 kV0 dc0 pm0 cd0 ct0 : Value}
    (a0 : PySem.W.nsIn K mainGlobals "pair_count" = some (some (.ref f0))) (l0 : K.lookup f0 = some ⟨oc0, od0, .func (PySem.W.fnOf "pair_count" "pair_count" (defArgs s_pair_count) (defBody s_pair_count) (defScope s_pair_count) .none kV0 dc0 pm0 an0 cd0 ct0), sl0⟩) (c0 : PySem.W.codeIn K cd0 "pair_count" = true) (k0 : PySem.W.keepIn K (.ref f0) = true)
    {f1 : Addr} {od1 an1 : Option Addr} {sl1 : Array (Option Value)} {oc1 kV1 dc1 pm1 cd1 ct1 : Value}
    (a1 : PySem.W.nsIn K mainGlobals "trimmed" = some (some (.ref f1))) (l1 : K.lookup f1 = some ⟨oc1, od1, .func (PySem.W.fnOf "trimmed" "trimmed" (defArgs s_trimmed) (defBody s_trimmed) (defScope s_trimmed) .none kV1 dc1 pm1 an1 cd1 ct1), sl1⟩) (c1 : PySem.W.codeIn K cd1 "trimmed" = true) (k1 : PySem.W.keepIn K (.ref f1) = true)
    {f2 : Addr} {od2 an2 : Option Addr} {sl2 : Array (Option Value)} {oc2 kV2 dc2 pm2 cd2 ct2 : Value}
    (a2 : PySem.W.nsIn K mainGlobals "pair_payments" = some (some (.ref f2))) (l2 : K.lookup f2 = some ⟨oc2, od2, .func (PySem.W.fnOf "pair_payments" "pair_payments" (defArgs s_pair_payments) (defBody s_pair_payments) (defScope s_pair_payments) .none kV2 dc2 pm2 an2 cd2 ct2), sl2⟩) (c2 : PySem.W.codeIn K cd2 "pair_payments" = true) (k2 : PySem.W.keepIn K (.ref f2) = true)
    {f3 : Addr} {od3 an3 : Option Addr} {sl3 : Array (Option Value)} {oc3 kV3 dc3 pm3 cd3 ct3 : Value}
    (a3 : PySem.W.nsIn K mainGlobals "fraction_at" = some (some (.ref f3))) (l3 : K.lookup f3 = some ⟨oc3, od3, .func (PySem.W.fnOf "fraction_at" "fraction_at" (defArgs s_fraction_at) (defBody s_fraction_at) (defScope s_fraction_at) .none kV3 dc3 pm3 an3 cd3 ct3), sl3⟩) (c3 : PySem.W.codeIn K cd3 "fraction_at" = true) (k3 : PySem.W.keepIn K (.ref f3) = true)
    {f4 : Addr} {od4 an4 : Option Addr} {sl4 : Array (Option Value)} {oc4 kV4 dc4 pm4 cd4 ct4 : Value}
    (a4 : PySem.W.nsIn K mainGlobals "place_of" = some (some (.ref f4))) (l4 : K.lookup f4 = some ⟨oc4, od4, .func (PySem.W.fnOf "place_of" "place_of" (defArgs s_place_of) (defBody s_place_of) (defScope s_place_of) .none kV4 dc4 pm4 an4 cd4 ct4), sl4⟩) (c4 : PySem.W.codeIn K cd4 "place_of" = true) (k4 : PySem.W.keepIn K (.ref f4) = true)
    {f5 : Addr} {od5 an5 : Option Addr} {sl5 : Array (Option Value)} {oc5 kV5 dc5 pm5 cd5 ct5 : Value}
    (a5 : PySem.W.nsIn K mainGlobals "fraction_behind" = some (some (.ref f5))) (l5 : K.lookup f5 = some ⟨oc5, od5, .func (PySem.W.fnOf "fraction_behind" "fraction_behind" (defArgs s_fraction_behind) (defBody s_fraction_behind) (defScope s_fraction_behind) .none kV5 dc5 pm5 an5 cd5 ct5), sl5⟩) (c5 : PySem.W.codeIn K cd5 "fraction_behind" = true) (k5 : PySem.W.keepIn K (.ref f5) = true)
    {f6 : Addr} {od6 an6 : Option Addr} {sl6 : Array (Option Value)} {oc6 kV6 dc6 pm6 cd6 ct6 : Value}
    (a6 : PySem.W.nsIn K mainGlobals "_law_deck" = some (some (.ref f6))) (l6 : K.lookup f6 = some ⟨oc6, od6, .func (PySem.W.fnOf "_law_deck" "_law_deck" (defArgs s__law_deck) (defBody s__law_deck) (defScope s__law_deck) .none kV6 dc6 pm6 an6 cd6 ct6), sl6⟩) (c6 : PySem.W.codeIn K cd6 "_law_deck" = true) (k6 : PySem.W.keepIn K (.ref f6) = true)
    {f7 : Addr} {od7 an7 : Option Addr} {sl7 : Array (Option Value)} {oc7 kV7 dc7 pm7 cd7 ct7 : Value}
    (a7 : PySem.W.nsIn K mainGlobals "_law_take" = some (some (.ref f7))) (l7 : K.lookup f7 = some ⟨oc7, od7, .func (PySem.W.fnOf "_law_take" "_law_take" (defArgs s__law_take) (defBody s__law_take) (defScope s__law_take) .none kV7 dc7 pm7 an7 cd7 ct7), sl7⟩) (c7 : PySem.W.codeIn K cd7 "_law_take" = true) (k7 : PySem.W.keepIn K (.ref f7) = true)
    {f8 : Addr} {od8 an8 : Option Addr} {sl8 : Array (Option Value)} {oc8 kV8 dc8 pm8 cd8 ct8 : Value}
    (a8 : PySem.W.nsIn K mainGlobals "_law_plain" = some (some (.ref f8))) (l8 : K.lookup f8 = some ⟨oc8, od8, .func (PySem.W.fnOf "_law_plain" "_law_plain" (defArgs s__law_plain) (defBody s__law_plain) (defScope s__law_plain) .none kV8 dc8 pm8 an8 cd8 ct8), sl8⟩) (c8 : PySem.W.codeIn K cd8 "_law_plain" = true) (k8 : PySem.W.keepIn K (.ref f8) = true)
    {f9 : Addr} {od9 an9 : Option Addr} {sl9 : Array (Option Value)} {oc9 kV9 dc9 pm9 cd9 ct9 : Value}
    (a9 : PySem.W.nsIn K mainGlobals "_law_same" = some (some (.ref f9))) (l9 : K.lookup f9 = some ⟨oc9, od9, .func (PySem.W.fnOf "_law_same" "_law_same" (defArgs s__law_same) (defBody s__law_same) (defScope s__law_same) .none kV9 dc9 pm9 an9 cd9 ct9), sl9⟩) (c9 : PySem.W.codeIn K cd9 "_law_same" = true) (k9 : PySem.W.keepIn K (.ref f9) = true)
    {f10 : Addr} {od10 an10 : Option Addr} {sl10 : Array (Option Value)} {oc10 kV10 dc10 pm10 cd10 ct10 : Value}
    (a10 : PySem.W.nsIn K mainGlobals "_law_gcd" = some (some (.ref f10))) (l10 : K.lookup f10 = some ⟨oc10, od10, .func (PySem.W.fnOf "_law_gcd" "_law_gcd" (defArgs s__law_gcd) (defBody s__law_gcd) (defScope s__law_gcd) .none kV10 dc10 pm10 an10 cd10 ct10), sl10⟩) (c10 : PySem.W.codeIn K cd10 "_law_gcd" = true) (k10 : PySem.W.keepIn K (.ref f10) = true)
    {f11 : Addr} {od11 an11 : Option Addr} {sl11 : Array (Option Value)} {oc11 kV11 dc11 pm11 cd11 ct11 : Value}
    (a11 : PySem.W.nsIn K mainGlobals "_law_frac" = some (some (.ref f11))) (l11 : K.lookup f11 = some ⟨oc11, od11, .func (PySem.W.fnOf "_law_frac" "_law_frac" (defArgs s__law_frac) (defBody s__law_frac) (defScope s__law_frac) .none kV11 dc11 pm11 an11 cd11 ct11), sl11⟩) (c11 : PySem.W.codeIn K cd11 "_law_frac" = true) (k11 : PySem.W.keepIn K (.ref f11) = true)
    {f12 : Addr} {od12 an12 : Option Addr} {sl12 : Array (Option Value)} {oc12 kV12 dc12 pm12 cd12 ct12 : Value}
    (a12 : PySem.W.nsIn K mainGlobals "_law_minus" = some (some (.ref f12))) (l12 : K.lookup f12 = some ⟨oc12, od12, .func (PySem.W.fnOf "_law_minus" "_law_minus" (defArgs s__law_minus) (defBody s__law_minus) (defScope s__law_minus) .none kV12 dc12 pm12 an12 cd12 ct12), sl12⟩) (c12 : PySem.W.codeIn K cd12 "_law_minus" = true) (k12 : PySem.W.keepIn K (.ref f12) = true)
    {f13 : Addr} {od13 an13 : Option Addr} {sl13 : Array (Option Value)} {oc13 kV13 dc13 pm13 cd13 ct13 : Value}
    (a13 : PySem.W.nsIn K mainGlobals "_law_over" = some (some (.ref f13))) (l13 : K.lookup f13 = some ⟨oc13, od13, .func (PySem.W.fnOf "_law_over" "_law_over" (defArgs s__law_over) (defBody s__law_over) (defScope s__law_over) .none kV13 dc13 pm13 an13 cd13 ct13), sl13⟩) (c13 : PySem.W.codeIn K cd13 "_law_over" = true) (k13 : PySem.W.keepIn K (.ref f13) = true)
    {f14 : Addr} {od14 an14 : Option Addr} {sl14 : Array (Option Value)} {oc14 kV14 dc14 pm14 cd14 ct14 : Value}
    (a14 : PySem.W.nsIn K mainGlobals "_law_pairs" = some (some (.ref f14))) (l14 : K.lookup f14 = some ⟨oc14, od14, .func (PySem.W.fnOf "_law_pairs" "_law_pairs" (defArgs s__law_pairs) (defBody s__law_pairs) (defScope s__law_pairs) .none kV14 dc14 pm14 an14 cd14 ct14), sl14⟩) (c14 : PySem.W.codeIn K cd14 "_law_pairs" = true) (k14 : PySem.W.keepIn K (.ref f14) = true)
    {f15 : Addr} {od15 an15 : Option Addr} {sl15 : Array (Option Value)} {oc15 kV15 dc15 pm15 cd15 ct15 : Value}
    (a15 : PySem.W.nsIn K mainGlobals "_law_count" = some (some (.ref f15))) (l15 : K.lookup f15 = some ⟨oc15, od15, .func (PySem.W.fnOf "_law_count" "_law_count" (defArgs s__law_count) (defBody s__law_count) (defScope s__law_count) .none kV15 dc15 pm15 an15 cd15 ct15), sl15⟩) (c15 : PySem.W.codeIn K cd15 "_law_count" = true) (k15 : PySem.W.keepIn K (.ref f15) = true)
    {f16 : Addr} {od16 an16 : Option Addr} {sl16 : Array (Option Value)} {oc16 kV16 dc16 pm16 cd16 ct16 : Value}
    (a16 : PySem.W.nsIn K mainGlobals "_law_behind" = some (some (.ref f16))) (l16 : K.lookup f16 = some ⟨oc16, od16, .func (PySem.W.fnOf "_law_behind" "_law_behind" (defArgs s__law_behind) (defBody s__law_behind) (defScope s__law_behind) .none kV16 dc16 pm16 an16 cd16 ct16), sl16⟩) (c16 : PySem.W.codeIn K cd16 "_law_behind" = true) (k16 : PySem.W.keepIn K (.ref f16) = true)
    {f17 : Addr} {od17 an17 : Option Addr} {sl17 : Array (Option Value)} {oc17 kV17 dc17 pm17 cd17 ct17 : Value}
    (a17 : PySem.W.nsIn K mainGlobals "law" = some (some (.ref f17))) (l17 : K.lookup f17 = some ⟨oc17, od17, .func (PySem.W.fnOf "law" "law" (defArgs s_law) (defBody s_law) (defScope s_law) .none kV17 dc17 pm17 an17 cd17 ct17), sl17⟩) (c17 : PySem.W.codeIn K cd17 "law" = true) (k17 : PySem.W.keepIn K (.ref f17) = true)
    (z_abs : PySem.W.nsIn K mainGlobals "abs" = some none)
    (z_bool : PySem.W.nsIn K mainGlobals "bool" = some none)
    (z_int : PySem.W.nsIn K mainGlobals "int" = some none)
    (z_isinstance : PySem.W.nsIn K mainGlobals "isinstance" = some none)
    (z_len : PySem.W.nsIn K mainGlobals "len" = some none)
    (z_list : PySem.W.nsIn K mainGlobals "list" = some none)
    (z_range : PySem.W.nsIn K mainGlobals "range" = some none)
    (z_sorted : PySem.W.nsIn K mainGlobals "sorted" = some none)
    (z_str : PySem.W.nsIn K mainGlobals "str" = some none)
    (z_tuple : PySem.W.nsIn K mainGlobals "tuple" = some none)
    : ∃ fd : FuncData, (∀ (s : Shared) (v : Value), BindsTo s fd ⟨[v], []⟩ [("script", v)]) ∧ ∀ base : Heap, K.In base → base.Ns mainGlobals mg → FnOk l.prog w K mg base CX0 25 fa fd ["script"] (spD K 1 φ_law) := by
  have e := hfa.symm.trans (PySem.W.mg_of X G a17)
  cases e
  have B : Blt mg := ⟨PySem.W.mg_none_of X G z_abs, PySem.W.mg_none_of X G z_bool, PySem.W.mg_none_of X G z_int, PySem.W.mg_none_of X G z_isinstance, PySem.W.mg_none_of X G z_len, PySem.W.mg_none_of X G z_list, PySem.W.mg_none_of X G z_range, PySem.W.mg_none_of X G z_sorted, PySem.W.mg_none_of X G z_str, PySem.W.mg_none_of X G z_tuple⟩
  have F0 := fun_mk (st := s_pair_count) l0 c0 k0
  have F1 := fun_mk (st := s_trimmed) l1 c1 k1
  have F2 := fun_mk (st := s_pair_payments) l2 c2 k2
  have F3 := fun_mk (st := s_fraction_at) l3 c3 k3
  have F4 := fun_mk (st := s_place_of) l4 c4 k4
  have F5 := fun_mk (st := s_fraction_behind) l5 c5 k5
  have F6 := fun_mk (st := s__law_deck) l6 c6 k6
  have F7 := fun_mk (st := s__law_take) l7 c7 k7
  have F8 := fun_mk (st := s__law_plain) l8 c8 k8
  have F9 := fun_mk (st := s__law_same) l9 c9 k9
  have F10 := fun_mk (st := s__law_gcd) l10 c10 k10
  have F11 := fun_mk (st := s__law_frac) l11 c11 k11
  have F12 := fun_mk (st := s__law_minus) l12 c12 k12
  have F13 := fun_mk (st := s__law_over) l13 c13 k13
  have F14 := fun_mk (st := s__law_pairs) l14 c14 k14
  have F15 := fun_mk (st := s__law_count) l15 c15 k15
  have F16 := fun_mk (st := s__law_behind) l16 c16 k16
  have F17 := fun_mk (st := s_law) l17 c17 k17
  refine ⟨PySem.W.fnOf "law" "law" (defArgs s_law) (defBody s_law) (defScope s_law) .none kV17 dc17 pm17 an17 cd17 ct17, fun s v => .of_eq rfl, fun base _ _ => ?_⟩
  have G_pair_count := d_pair_count (P := l.prog) (w := w) (base := base) B  F0 (PySem.W.mg_of X G a0)
  have G_trimmed := d_trimmed (P := l.prog) (w := w) (base := base) B  F1 (PySem.W.mg_of X G a1)
  have G_pair_payments := d_pair_payments (P := l.prog) (w := w) (base := base) B G_trimmed F2 (PySem.W.mg_of X G a2)
  have G_fraction_at := d_fraction_at (P := l.prog) (w := w) (base := base) B G_pair_count F3 (PySem.W.mg_of X G a3)
  have G_place_of := d_place_of (P := l.prog) (w := w) (base := base) B  F4 (PySem.W.mg_of X G a4)
  have G_fraction_behind := d_fraction_behind (P := l.prog) (w := w) (base := base) B  F5 (PySem.W.mg_of X G a5)
  have G__law_deck := d__law_deck (P := l.prog) (w := w) (base := base) B  F6 (PySem.W.mg_of X G a6)
  have G__law_take := d__law_take (P := l.prog) (w := w) (base := base) B  F7 (PySem.W.mg_of X G a7)
  have G__law_plain := d__law_plain (P := l.prog) (w := w) (base := base) B  F8 (PySem.W.mg_of X G a8) 6
  have G__law_same := d__law_same (P := l.prog) (w := w) (base := base) B G__law_plain F9 (PySem.W.mg_of X G a9)
  have G__law_gcd := d__law_gcd (P := l.prog) (w := w) (base := base) B  F10 (PySem.W.mg_of X G a10)
  have G__law_frac := d__law_frac (P := l.prog) (w := w) (base := base) B G__law_gcd F11 (PySem.W.mg_of X G a11)
  have G__law_minus := d__law_minus (P := l.prog) (w := w) (base := base) B G__law_frac F12 (PySem.W.mg_of X G a12)
  have G__law_over := d__law_over (P := l.prog) (w := w) (base := base) B G__law_frac F13 (PySem.W.mg_of X G a13)
  have G__law_pairs := d__law_pairs (P := l.prog) (w := w) (base := base) B  F14 (PySem.W.mg_of X G a14) 9
  have G__law_count := d__law_count (P := l.prog) (w := w) (base := base) B  F15 (PySem.W.mg_of X G a15) 24
  have G__law_behind := d__law_behind (P := l.prog) (w := w) (base := base) B G__law_minus G__law_over F16 (PySem.W.mg_of X G a16)
  exact fn_d (ps := ["script"]) F17 sc_law fun cdv Ar outer s H E hr => by
    have C := xok (P := l.prog) (w := w) (K := K) (mg := mg) (base := base) (E := E) (H := H) (outer := outer) sc_law hr
    exact (dss_cons (ds_set 1 C (dx_call G__law_deck (hr.mono (by show _ ≤ 24; omega)) pass0 (ag_cons true (dx_name 0) (ag_cons false dx_int (ag_cons false dx_int ag_nil))))) (dss_cons (ds_for C (di_range1 B.b_range (da_cons dx_int da_nil)) (dg_name 2 C.nd) (dss_cons (ds_set 3 C (dx_callIO 1 G__law_take (hr.mono (by show _ ≤ 24; omega)) pass0 (ag_cons false dx_int ag_nil))) (dss_cons (ds_set 4 C (dx_b1 (c1_sorted C) B.b_sorted (dx_lc (own := [("row", 5)])  C (di_seq (dx_call G__law_pairs (hr.mono (by show _ ≤ 24; omega)) pass0 (ag_cons false (dx_name 3) (ag_cons false dx_int ag_nil)))) (blkOk_by (by show blkC ["script", "deck", "turn", "amount", "due", "row", "great", "n", "one", "other", "at", "half"] (defScope s_law) _ _ = true; decide +kernel)) (fun _ _ _ _ _ C => (dg_name 5 C.nd)) (fun _ _ _ _ _ C => dts_nil) (fun _ _ _ _ _ C => (dx_t1 c1_tuple B.b_tuple (dx_name 5)))))) (dss_cons (ds_if (dw_or (dt_not (dt_val (dx_call G__law_same (hr.mono (by show _ ≤ 24; omega)) pass0 (ag_cons false (dx_list (da_cons (dx_call G_pair_payments (hr.mono (by show _ ≤ 24; omega)) pass0 (ag_cons false (dx_name 3) ag_nil)) (da_cons (dx_call G_pair_count (hr.mono (by show _ ≤ 24; omega)) pass0 (ag_cons false (dx_name 3) ag_nil)) da_nil))) (ag_cons false (dx_list (da_cons (dx_name 4) (da_cons (dx_b1 c1_len B.b_len (dx_name 4)) da_nil))) ag_nil))))) (dw_or1 (dt_cmp (opd_ne C) (dx_call G__law_count (hr.mono (by show _ ≤ 24; omega)) pass0 (ag_cons false (dx_name 3) ag_nil)) (dx_b1 c1_len B.b_len (dx_name 4))))).dt (dss_one (ds_ret dx_bool)) dss_nil) (dss_cons (ds_set 6 C (dx_callIO 1 G__law_take (hr.mono (by show _ ≤ 24; omega)) pass0 (ag_cons false (dx_op opd_pow dx_int dx_int) ag_nil))) (dss_cons (ds_if (dt_cmp (opd_ne C) (dx_call G_pair_count (hr.mono (by show _ ≤ 24; omega)) pass0 (ag_cons false (dx_name 6) ag_nil)) (dx_call G__law_count (hr.mono (by show _ ≤ 24; omega)) pass0 (ag_cons false (dx_name 6) ag_nil))) (dss_one (ds_ret dx_bool)) dss_nil) (dss_cons (ds_set 7 C (dx_callIO 1 G__law_take (hr.mono (by show _ ≤ 24; omega)) pass0 (ag_cons false dx_int ag_nil))) (dss_cons (ds_set 8 C (dx_call G_fraction_at (hr.mono (by show _ ≤ 24; omega)) pass0 (ag_cons false (dx_name 7) ag_nil))) (dss_cons (ds_if (dw_or (dt_cmp (opd_ne C) (dx_name 8) (dx_tuple (da_cons (dx_call G_pair_count (hr.mono (by show _ ≤ 24; omega)) pass0 (ag_cons false (dx_name 7) ag_nil)) (da_cons (dx_call G_pair_count (hr.mono (by show _ ≤ 24; omega)) pass0 (ag_cons false (dx_op opd_add (dx_name 7) dx_int) ag_nil)) da_nil)))) (dw_or1 (dt_cmp (opd_ne C) (dx_call G__law_gcd (hr.mono (by show _ ≤ 24; omega)) pass0 (ag_cons false (dx_ix (dx_name 8) dx_int) (ag_cons false (dx_ix (dx_name 8) dx_int) ag_nil))) dx_int))).dt (dss_one (ds_ret dx_bool)) dss_nil) (dss_cons (ds_if (dw_or (dt_cmp (opd_ne C) (dx_call G_fraction_at (hr.mono (by show _ ≤ 24; omega)) pass0 (ag_cons false (dx_op opd_add (dx_name 7) dx_int) ag_nil)) (dx_call G__law_behind (hr.mono (by show _ ≤ 24; omega)) pass0 (ag_cons false (dx_name 8) ag_nil))) (dw_or1 (dt_cmp (opd_ne C) (dx_call G_fraction_behind (hr.mono (by show _ ≤ 24; omega)) pass0 (ag_cons false (dx_name 8) ag_nil)) (dx_call G__law_behind (hr.mono (by show _ ≤ 24; omega)) pass0 (ag_cons false (dx_name 8) ag_nil))))).dt (dss_one (ds_ret dx_bool)) dss_nil) (dss_cons (ds_set 9 C (dx_call G__law_frac (hr.mono (by show _ ≤ 24; omega)) pass0 (ag_cons false (dx_op opd_add dx_int (dx_callIO 1 G__law_take (hr.mono (by show _ ≤ 24; omega)) pass0 (ag_cons false dx_int ag_nil))) (ag_cons false (dx_op opd_add dx_int (dx_callIO 1 G__law_take (hr.mono (by show _ ≤ 24; omega)) pass0 (ag_cons false dx_int ag_nil))) ag_nil)))) (dss_cons (ds_set 10 C (dx_call G_place_of (hr.mono (by show _ ≤ 24; omega)) pass0 (ag_cons false (dx_name 9) ag_nil))) (dss_cons (ds_if (dw_or (dt_cmp opd_lt (dx_name 10) dx_int) (dw_or1 (dw_and (dt_cmp opd_lt (dx_name 10) (dx_op opd_pow dx_int dx_int)) (dw_and1 (dt_cmp (opd_ne C) (dx_call G_fraction_at (hr.mono (by show _ ≤ 24; omega)) pass0 (ag_cons false (dx_name 10) ag_nil)) (dx_name 9)))).dt)).dt (dss_one (ds_ret dx_bool)) dss_nil) (dss_cons (ds_set 11 C (dx_op opd_add dx_int (dx_callIO 1 G__law_take (hr.mono (by show _ ≤ 24; omega)) pass0 (ag_cons false dx_int ag_nil)))) (dss_one (ds_if (dw_or (dt_cmp (opd_ne C) (dx_call G_pair_count (hr.mono (by show _ ≤ 24; omega)) pass0 (ag_cons false (dx_op opd_mul dx_int (dx_name 11)) ag_nil)) (dx_op opd_add (dx_call G_pair_count (hr.mono (by show _ ≤ 24; omega)) pass0 (ag_cons false (dx_name 11) ag_nil)) (dx_call G_pair_count (hr.mono (by show _ ≤ 24; omega)) pass0 (ag_cons false (dx_op opd_sub (dx_name 11) dx_int) ag_nil)))) (dw_or1 (dt_cmp (opd_ne C) (dx_call G_pair_count (hr.mono (by show _ ≤ 24; omega)) pass0 (ag_cons false (dx_op opd_add (dx_op opd_mul dx_int (dx_name 11)) dx_int) ag_nil)) (dx_call G_pair_count (hr.mono (by show _ ≤ 24; omega)) pass0 (ag_cons false (dx_name 11) ag_nil))))).dt (dss_one (ds_ret dx_bool)) dss_nil)))))))))))))))) (dss_one (ds_ret dx_bool))))
end K44
set_option Elab.async false
set_option linter.all false
set_option maxRecDepth 100000
set_option maxHeartbeats 1000000
namespace K44
open PySem PySem.Spec L2 DL M44
theorem deck_eq : φ__law_deck = φ_deck := rfl
theorem take_eq : φ__law_take = φ_take := rfl
theorem plain_eq : ∀ n, φ__law_plain n = φ_plain n
  | 0 => rfl
  | n + 1 => by
    show fnM _ _ (t__law_plain (φ__law_plain n)) = fnM _ _ (t_plain (φ_plain n))
    rw [plain_eq n]; rfl
theorem same_eq : φ__law_same = φ_same := by
  unfold φ__law_same φ_same t__law_same t_same
  rw [plain_eq]
theorem fmod_pos (a : Int) (n : Nat) (h : 0 < n) : a.fmod (n : Int) = a % (n : Int) := Int.fmod_eq_emod_of_nonneg _ (by omega)
theorem nz {n : Nat} (h : 0 < n) : (((n : Nat) : Int) != 0) = true := by simp; omega
def intAt (i : Nat) (ρ : En) : Nat := match ρ[i]? with
  | some (.fr (.int n)) => n.toNat
  | _ => 0
theorem d0 : ((0 : Nat) ≤ 16777216) = True := by simp
theorem d1 : ((0 + 1 : Nat) ≤ 16777216) = True := by simp
theorem d2 : ((0 + 1 + 1 : Nat) ≤ 16777216) = True := by simp
theorem d3 : ((0 + 1 + 1 + 1 : Nat) ≤ 16777216) = True := by simp
theorem mulc (i j : Int) (h : i.natAbs < 18446744073709551616) : (decide (i.natAbs < 18446744073709551616) || decide (j.natAbs < 18446744073709551616) || decide (i.natAbs.log2 + j.natAbs.log2 < 1000000)) = true := by
  rw [decide_eq_true h]; simp
theorem divc (j : Int) (h0 : j ≠ 0) (h : j.natAbs < 1073741824) : (j != 0 && decide (j.natAbs < 1073741824)) = true := by
  rw [decide_eq_true h]; simpa using h0
theorem eqD_pair (a b : Int) : eqD (.tuple [.int a, .int b]) (.tuple [.int a, .int b]) = some true := eqD_refl _ rfl (by simp [PyData.depth, PyData.depthAll])
theorem n2 : ((2 : Int) != 0) = true := rfl
theorem n2' : decide (Int.natAbs 2 < 1073741824) = true := by decide
theorem pc_ok (n : Nat) (hn : n < 2000000) : φ_pair_count [.fr (.int n)] = some (.rep (.int (cnt n)), [.un]) := by
  have main : Wp (t_pair_count [.fr (.int n), .un, .un, .un]) fun c ρ => c = .rt (.rep (.int (cnt n))) := by
    unfold t_pair_count
    refine Wp_st (ρ1 := [.fr (.int n), .fr (.int 1), .fr (.int 0), .un]) (by simp -implicitDefEqProofs only [bnd_ap, opM_ap, oneM_ap, boolM_ap, truM_ap, seeM_ap, lft_ap, nameM_ap, cstM_ap, pur_ap, keep_rep, keep_new, keep_bor, see_rep, see_new, see_bor, seqM_ap, asgM_ap, dispM_ap, muM_ap, tgM_ap, subM_ap, retM_rep, retM_new, retM_bor, chainM_ap, repM_ap, rmM_ap, isTy, callM_ap, callIO_ap, agM_f, agM_t, insR, hasSl, lenScrM_ap, ixScrM_ap, setAll, outs, endM, fnM_ap, gAdd, DL.gSub, gI, gCI, gMul, gMod, gDiv, gPow, gLen, gInt, gAbs, gNeg, gIs, gEq, gIx, isNone, boolOf, gTruth, gAppend, gPop, gPopAt, gReverse, gExtend, gListOf, gTupOf, seqOf_list, seqOf_tup, rng1, rng2, gRgL, gRgL2, eqD_int, List.getElem?_cons_zero, List.getElem?_cons_succ, List.set_cons_zero, List.set_cons_succ, List.length_cons, List.length_nil, List.nil_append, List.cons_append, List.append_nil, List.replicate_zero, List.replicate_succ, List.replicate_one, if_true, if_false, Bool.false_eq_true, reduceIte, Nat.reduceAdd, Nat.reduceSub, List.contains_cons, List.contains_nil, Bool.or_false, Nat.reduceBEq, Bool.false_or, Bool.true_or, Bool.or_true, Bool.and_true, Bool.true_and, Bool.not_true, Bool.not_false, decide_true, decide_false, unpM, tgTup, tgCons, tgNil, d2]) ?_
    refine Wp_st (ρ1 := [.fr (.int n), .fr (.int 1), .fr (.int 0), .fr (.int n)]) (by simp -implicitDefEqProofs only [bnd_ap, opM_ap, oneM_ap, boolM_ap, truM_ap, seeM_ap, lft_ap, nameM_ap, cstM_ap, pur_ap, keep_rep, keep_new, keep_bor, see_rep, see_new, see_bor, seqM_ap, asgM_ap, dispM_ap, muM_ap, tgM_ap, subM_ap, retM_rep, retM_new, retM_bor, chainM_ap, repM_ap, rmM_ap, isTy, callM_ap, callIO_ap, agM_f, agM_t, insR, hasSl, lenScrM_ap, ixScrM_ap, setAll, outs, endM, fnM_ap, gAdd, DL.gSub, gI, gCI, gMul, gMod, gDiv, gPow, gLen, gInt, gAbs, gNeg, gIs, gEq, gIx, isNone, boolOf, gTruth, gAppend, gPop, gPopAt, gReverse, gExtend, gListOf, gTupOf, seqOf_list, seqOf_tup, rng1, rng2, gRgL, gRgL2, eqD_int, List.getElem?_cons_zero, List.getElem?_cons_succ, List.set_cons_zero, List.set_cons_succ, List.length_cons, List.length_nil, List.nil_append, List.cons_append, List.append_nil, List.replicate_zero, List.replicate_succ, List.replicate_one, if_true, if_false, Bool.false_eq_true, reduceIte, Nat.reduceAdd, Nat.reduceSub, List.contains_cons, List.contains_nil, Bool.or_false, Nat.reduceBEq, Bool.false_or, Bool.true_or, Bool.or_true, Bool.and_true, Bool.true_and, Bool.not_true, Bool.not_false, decide_true, decide_false]) ?_
    refine Wp_sts (fun ρ => ∃ s0 s2 s3 : Sl, ρ = [s0, .fr (.int (cnt n)), s2, s3]) ?_ ?_
    · refine Wp_while (fun ρ => ∃ (a b h : Nat), ρ = [.fr (.int n), .fr (.int a), .fr (.int b), .fr (.int h)] ∧ a * cnt h + b * (if h = 0 then 0 else cnt (h - 1)) = cnt n) (intAt 3) ?_ ?_ ?_
      · refine ⟨1, 0, n, rfl, ?_⟩
        rw [Nat.one_mul, Nat.zero_mul, Nat.add_zero]
      · show (n : Int).toNat < _
        omega
      · rintro ρ ⟨a, b, h, rfl, hh⟩
        rcases Nat.eq_zero_or_pos h with rfl | hp
        · refine Wp.of (a := false) (ρ := _) (by simp -implicitDefEqProofs only [bnd_ap, opM_ap, oneM_ap, boolM_ap, truM_ap, seeM_ap, lft_ap, nameM_ap, cstM_ap, pur_ap, keep_rep, keep_new, keep_bor, see_rep, see_new, see_bor, seqM_ap, asgM_ap, dispM_ap, muM_ap, tgM_ap, subM_ap, retM_rep, retM_new, retM_bor, chainM_ap, repM_ap, rmM_ap, isTy, callM_ap, callIO_ap, agM_f, agM_t, insR, hasSl, lenScrM_ap, ixScrM_ap, setAll, outs, endM, fnM_ap, gAdd, DL.gSub, gI, gCI, gMul, gMod, gDiv, gPow, gLen, gInt, gAbs, gNeg, gIs, gEq, gIx, isNone, boolOf, gTruth, gAppend, gPop, gPopAt, gReverse, gExtend, gListOf, gTupOf, seqOf_list, seqOf_tup, rng1, rng2, gRgL, gRgL2, eqD_int, List.getElem?_cons_zero, List.getElem?_cons_succ, List.set_cons_zero, List.set_cons_succ, List.length_cons, List.length_nil, List.nil_append, List.cons_append, List.append_nil, List.replicate_zero, List.replicate_succ, List.replicate_one, if_true, if_false, Bool.false_eq_true, reduceIte, Nat.reduceAdd, Nat.reduceSub, List.contains_cons, List.contains_nil, Bool.or_false, Nat.reduceBEq, Bool.false_or, Bool.true_or, Bool.or_true, Bool.and_true, Bool.true_and, Bool.not_true, Bool.not_false, decide_true, decide_false, show decide ((0 : Int) < ((0 : Nat) : Int)) = false from rfl]; rfl) ?_
          rw [if_neg Bool.false_ne_true]
          rw [cnt_0, if_pos rfl] at hh
          have e : a = cnt n := by omega
          exact ⟨rfl, _, _, _, by rw [← e]⟩
        · refine Wp.of (a := true) (ρ := _) (by simp -implicitDefEqProofs only [bnd_ap, opM_ap, oneM_ap, boolM_ap, truM_ap, seeM_ap, lft_ap, nameM_ap, cstM_ap, pur_ap, keep_rep, keep_new, keep_bor, see_rep, see_new, see_bor, seqM_ap, asgM_ap, dispM_ap, muM_ap, tgM_ap, subM_ap, retM_rep, retM_new, retM_bor, chainM_ap, repM_ap, rmM_ap, isTy, callM_ap, callIO_ap, agM_f, agM_t, insR, hasSl, lenScrM_ap, ixScrM_ap, setAll, outs, endM, fnM_ap, gAdd, DL.gSub, gI, gCI, gMul, gMod, gDiv, gPow, gLen, gInt, gAbs, gNeg, gIs, gEq, gIx, isNone, boolOf, gTruth, gAppend, gPop, gPopAt, gReverse, gExtend, gListOf, gTupOf, seqOf_list, seqOf_tup, rng1, rng2, gRgL, gRgL2, eqD_int, List.getElem?_cons_zero, List.getElem?_cons_succ, List.set_cons_zero, List.set_cons_succ, List.length_cons, List.length_nil, List.nil_append, List.cons_append, List.append_nil, List.replicate_zero, List.replicate_succ, List.replicate_one, if_true, if_false, Bool.false_eq_true, reduceIte, Nat.reduceAdd, Nat.reduceSub, List.contains_cons, List.contains_nil, Bool.or_false, Nat.reduceBEq, Bool.false_or, Bool.true_or, Bool.or_true, Bool.and_true, Bool.true_and, Bool.not_true, Bool.not_false, decide_true, decide_false, decide_eq_true (show (0 : Int) < (h : Int) by omega)]; rfl) ?_
          rw [if_pos rfl]
          rw [if_neg (by omega)] at hh
          obtain ⟨m, rfl | rfl⟩ : ∃ m, h = 2 * m + 1 ∨ h = 2 * m + 2 := ⟨(h - 1) / 2, by omega⟩
          · have f1 : (((2 * m + 1 : Nat) : Int)).fmod 2 = 1 := by rw [Int.fmod_eq_emod_of_nonneg _ (by omega)]; omega
            have f2 : (((2 * m + 1 : Nat) : Int) - 1).fdiv 2 = (m : Int) := by rw [Int.fdiv_eq_ediv_of_nonneg _ (by omega)]; omega
            refine Wp.of (a := .nx) (ρ := [.fr (.int n), .fr (.int ((a + b : Nat) : Int)), .fr (.int b), .fr (.int m)]) (by simp -implicitDefEqProofs only [bnd_ap, opM_ap, oneM_ap, boolM_ap, truM_ap, seeM_ap, lft_ap, nameM_ap, cstM_ap, pur_ap, keep_rep, keep_new, keep_bor, see_rep, see_new, see_bor, seqM_ap, asgM_ap, dispM_ap, muM_ap, tgM_ap, subM_ap, retM_rep, retM_new, retM_bor, chainM_ap, repM_ap, rmM_ap, isTy, callM_ap, callIO_ap, agM_f, agM_t, insR, hasSl, lenScrM_ap, ixScrM_ap, setAll, outs, endM, fnM_ap, gAdd, DL.gSub, gI, gCI, gMul, gMod, gDiv, gPow, gLen, gInt, gAbs, gNeg, gIs, gEq, gIx, isNone, boolOf, gTruth, gAppend, gPop, gPopAt, gReverse, gExtend, gListOf, gTupOf, seqOf_list, seqOf_tup, rng1, rng2, gRgL, gRgL2, eqD_int, List.getElem?_cons_zero, List.getElem?_cons_succ, List.set_cons_zero, List.set_cons_succ, List.length_cons, List.length_nil, List.nil_append, List.cons_append, List.append_nil, List.replicate_zero, List.replicate_succ, List.replicate_one, if_true, if_false, Bool.false_eq_true, reduceIte, Nat.reduceAdd, Nat.reduceSub, List.contains_cons, List.contains_nil, Bool.or_false, Nat.reduceBEq, Bool.false_or, Bool.true_or, Bool.or_true, Bool.and_true, Bool.true_and, Bool.not_true, Bool.not_false, decide_true, decide_false, f1, f2, n2, n2', show ((a : Int) + (b : Int)) = ((a + b : Nat) : Int) by omega]) ⟨⟨_, _, _, rfl, ?_⟩, ?_⟩
            · rw [cnt_odd, Nat.add_sub_cancel] at hh
              rw [← hh]
              cases m with
              | zero => simp only [Nat.mul_zero, if_true, cnt_0]; omega
              | succ m =>
                rw [if_neg (by omega), show 2 * (m + 1) = 2 * m + 2 by omega, cnt_even, Nat.add_sub_cancel, Nat.add_mul, Nat.mul_add]; omega
            · show (m : Int).toNat < ((2 * m + 1 : Nat) : Int).toNat
              omega
          · have f1 : (((2 * m + 2 : Nat) : Int)).fmod 2 = 0 := by rw [Int.fmod_eq_emod_of_nonneg _ (by omega)]; omega
            have f2 : (((2 * m + 2 : Nat) : Int)).fdiv 2 = ((m + 1 : Nat) : Int) := by rw [Int.fdiv_eq_ediv_of_nonneg _ (by omega)]; omega
            refine Wp.of (a := .nx) (ρ := [.fr (.int n), .fr (.int a), .fr (.int ((a + b : Nat) : Int)), .fr (.int ((m + 1 : Nat) : Int))]) (by simp -implicitDefEqProofs only [bnd_ap, opM_ap, oneM_ap, boolM_ap, truM_ap, seeM_ap, lft_ap, nameM_ap, cstM_ap, pur_ap, keep_rep, keep_new, keep_bor, see_rep, see_new, see_bor, seqM_ap, asgM_ap, dispM_ap, muM_ap, tgM_ap, subM_ap, retM_rep, retM_new, retM_bor, chainM_ap, repM_ap, rmM_ap, isTy, callM_ap, callIO_ap, agM_f, agM_t, insR, hasSl, lenScrM_ap, ixScrM_ap, setAll, outs, endM, fnM_ap, gAdd, DL.gSub, gI, gCI, gMul, gMod, gDiv, gPow, gLen, gInt, gAbs, gNeg, gIs, gEq, gIx, isNone, boolOf, gTruth, gAppend, gPop, gPopAt, gReverse, gExtend, gListOf, gTupOf, seqOf_list, seqOf_tup, rng1, rng2, gRgL, gRgL2, eqD_int, List.getElem?_cons_zero, List.getElem?_cons_succ, List.set_cons_zero, List.set_cons_succ, List.length_cons, List.length_nil, List.nil_append, List.cons_append, List.append_nil, List.replicate_zero, List.replicate_succ, List.replicate_one, if_true, if_false, Bool.false_eq_true, reduceIte, Nat.reduceAdd, Nat.reduceSub, List.contains_cons, List.contains_nil, Bool.or_false, Nat.reduceBEq, Bool.false_or, Bool.true_or, Bool.or_true, Bool.and_true, Bool.true_and, Bool.not_true, Bool.not_false, decide_true, decide_false, f1, f2, n2, n2', show ((a : Int) + (b : Int)) = ((a + b : Nat) : Int) by omega, show decide ((0 : Int) = 1) = false from rfl]) ⟨⟨_, _, _, rfl, ?_⟩, ?_⟩
            · rw [cnt_even, show 2 * m + 2 - 1 = 2 * m + 1 by omega, cnt_odd] at hh
              rw [← hh, if_neg (by omega), Nat.add_sub_cancel, Nat.add_mul, Nat.mul_add]; omega
            · show ((m + 1 : Nat) : Int).toNat < ((2 * m + 2 : Nat) : Int).toNat
              omega
    · rintro ρ ⟨s0, s2, s3, rfl⟩
      exact Wp.of (by simp -implicitDefEqProofs only [bnd_ap, opM_ap, oneM_ap, boolM_ap, truM_ap, seeM_ap, lft_ap, nameM_ap, cstM_ap, pur_ap, keep_rep, keep_new, keep_bor, see_rep, see_new, see_bor, seqM_ap, asgM_ap, dispM_ap, muM_ap, tgM_ap, subM_ap, retM_rep, retM_new, retM_bor, chainM_ap, repM_ap, rmM_ap, isTy, callM_ap, callIO_ap, agM_f, agM_t, insR, hasSl, lenScrM_ap, ixScrM_ap, setAll, outs, endM, fnM_ap, gAdd, DL.gSub, gI, gCI, gMul, gMod, gDiv, gPow, gLen, gInt, gAbs, gNeg, gIs, gEq, gIx, isNone, boolOf, gTruth, gAppend, gPop, gPopAt, gReverse, gExtend, gListOf, gTupOf, seqOf_list, seqOf_tup, rng1, rng2, gRgL, gRgL2, eqD_int, List.getElem?_cons_zero, List.getElem?_cons_succ, List.set_cons_zero, List.set_cons_succ, List.length_cons, List.length_nil, List.nil_append, List.cons_append, List.append_nil, List.replicate_zero, List.replicate_succ, List.replicate_one, if_true, if_false, Bool.false_eq_true, reduceIte, Nat.reduceAdd, Nat.reduceSub, List.contains_cons, List.contains_nil, Bool.or_false, Nat.reduceBEq, Bool.false_or, Bool.true_or, Bool.or_true, Bool.and_true, Bool.true_and, Bool.not_true, Bool.not_false, decide_true, decide_false]; rfl) rfl
  exact fn_of_wp (main.mono fun c ρ e => by subst e; rfl)
theorem lc_ok : ∀ (k n : Nat), n < 2 ^ k → φ__law_count (k + 1) [.fr (.int n)] = some (.rep (.int (cnt n)), [.un]) := by
  intro k
  induction k with
  | zero =>
    intro n h
    have : n = 0 := by simp at h; omega
    subst this
    rw [cnt_0]; rfl
  | succ k ih =>
    intro n h
    rw [Nat.pow_succ] at h
    rcases Nat.eq_zero_or_pos n with rfl | hp
    · rw [cnt_0]; rfl
    · have c1 : decide ((n : Int) < 1) = false := decide_eq_false (by omega)
      obtain ⟨m, rfl | rfl⟩ : ∃ m, n = 2 * m + 1 ∨ n = 2 * m + 2 := ⟨(n - 1) / 2, by omega⟩
      · have f2 : (((2 * m + 1 : Nat) : Int)).fdiv 2 = (m : Int) := by rw [Int.fdiv_eq_ediv_of_nonneg _ (by omega)]; omega
        have f3 : ((2 * m + 1 : Nat) : Int) - 2 * (m : Int) = 1 := by omega
        have i1 := ih m (by omega)
        rw [cnt_odd]
        have key : φ__law_count (k + 1 + 1) [.fr (.int ((2 * m + 1 : Nat) : Int))] = fnM ((([] ++ []) ++ ([1] ++ (([] ++ []) ++ [])))) 2 (t__law_count (φ__law_count (k + 1))) [.fr (.int ((2 * m + 1 : Nat) : Int))] := rfl
        rw [key]
        simp -implicitDefEqProofs only [bnd_ap, opM_ap, oneM_ap, boolM_ap, truM_ap, seeM_ap, lft_ap, nameM_ap, cstM_ap, pur_ap, keep_rep, keep_new, keep_bor, see_rep, see_new, see_bor, seqM_ap, asgM_ap, dispM_ap, muM_ap, tgM_ap, subM_ap, retM_rep, retM_new, retM_bor, chainM_ap, repM_ap, rmM_ap, isTy, callM_ap, callIO_ap, agM_f, agM_t, insR, hasSl, lenScrM_ap, ixScrM_ap, setAll, outs, endM, fnM_ap, gAdd, DL.gSub, gI, gCI, gMul, gMod, gDiv, gPow, gLen, gInt, gAbs, gNeg, gIs, gEq, gIx, isNone, boolOf, gTruth, gAppend, gPop, gPopAt, gReverse, gExtend, gListOf, gTupOf, seqOf_list, seqOf_tup, rng1, rng2, gRgL, gRgL2, eqD_int, List.getElem?_cons_zero, List.getElem?_cons_succ, List.set_cons_zero, List.set_cons_succ, List.length_cons, List.length_nil, List.nil_append, List.cons_append, List.append_nil, List.replicate_zero, List.replicate_succ, List.replicate_one, if_true, if_false, Bool.false_eq_true, reduceIte, Nat.reduceAdd, Nat.reduceSub, List.contains_cons, List.contains_nil, Bool.or_false, Nat.reduceBEq, Bool.false_or, Bool.true_or, Bool.or_true, Bool.and_true, Bool.true_and, Bool.not_true, Bool.not_false, decide_true, decide_false, t__law_count, c1, f2, f3, mulc 2 (m : Int) (by decide), i1, n2, n2']
      · have f2 : (((2 * m + 2 : Nat) : Int)).fdiv 2 = ((m + 1 : Nat) : Int) := by rw [Int.fdiv_eq_ediv_of_nonneg _ (by omega)]; omega
        have f3 : ((2 * m + 2 : Nat) : Int) - 2 * ((m + 1 : Nat) : Int) = 0 := by omega
        have i1 := ih m (by omega)
        have i2 := ih (m + 1) (by omega)
        have f4 : ((m + 1 : Nat) : Int) - 1 = (m : Int) := by omega
        have f5 : ((cnt (m + 1) : Nat) : Int) + ((cnt m : Nat) : Int) = ((cnt (2 * m + 2) : Nat) : Int) := by rw [cnt_even]; omega
        have key : φ__law_count (k + 1 + 1) [.fr (.int ((2 * m + 2 : Nat) : Int))] = fnM ((([] ++ []) ++ ([1] ++ (([] ++ []) ++ [])))) 2 (t__law_count (φ__law_count (k + 1))) [.fr (.int ((2 * m + 2 : Nat) : Int))] := rfl
        rw [key]
        simp -implicitDefEqProofs only [bnd_ap, opM_ap, oneM_ap, boolM_ap, truM_ap, seeM_ap, lft_ap, nameM_ap, cstM_ap, pur_ap, keep_rep, keep_new, keep_bor, see_rep, see_new, see_bor, seqM_ap, asgM_ap, dispM_ap, muM_ap, tgM_ap, subM_ap, retM_rep, retM_new, retM_bor, chainM_ap, repM_ap, rmM_ap, isTy, callM_ap, callIO_ap, agM_f, agM_t, insR, hasSl, lenScrM_ap, ixScrM_ap, setAll, outs, endM, fnM_ap, gAdd, DL.gSub, gI, gCI, gMul, gMod, gDiv, gPow, gLen, gInt, gAbs, gNeg, gIs, gEq, gIx, isNone, boolOf, gTruth, gAppend, gPop, gPopAt, gReverse, gExtend, gListOf, gTupOf, seqOf_list, seqOf_tup, rng1, rng2, gRgL, gRgL2, eqD_int, List.getElem?_cons_zero, List.getElem?_cons_succ, List.set_cons_zero, List.set_cons_succ, List.length_cons, List.length_nil, List.nil_append, List.cons_append, List.append_nil, List.replicate_zero, List.replicate_succ, List.replicate_one, if_true, if_false, Bool.false_eq_true, reduceIte, Nat.reduceAdd, Nat.reduceSub, List.contains_cons, List.contains_nil, Bool.or_false, Nat.reduceBEq, Bool.false_or, Bool.true_or, Bool.or_true, Bool.and_true, Bool.true_and, Bool.not_true, Bool.not_false, decide_true, decide_false, t__law_count, c1, f2, f3, f4, f5, mulc 2 ((m + 1 : Nat) : Int) (by decide), i1, i2, n2, n2', show decide ((0 : Int) = 1) = false from rfl]
theorem gcd_ok (a b : Nat) (hab : a * b < 2 ^ 300) (hb : a < 1073741824) (hc : b < 1073741824) : φ__law_gcd [.fr (.int a), .fr (.int b)] = some (.rep (.int (Nat.gcd a b)), [.un, .un]) := by
  have main : Wp (t__law_gcd [.fr (.int a), .fr (.int b), .un, .un, .un]) fun c ρ => c = .rt (.rep (.int (Nat.gcd a b))) := by
    unfold t__law_gcd
    refine Wp_st (ρ1 := [.fr (.int a), .fr (.int b), .fr (.int a), .un, .un]) (by simp -implicitDefEqProofs only [bnd_ap, opM_ap, oneM_ap, boolM_ap, truM_ap, seeM_ap, lft_ap, nameM_ap, cstM_ap, pur_ap, keep_rep, keep_new, keep_bor, see_rep, see_new, see_bor, seqM_ap, asgM_ap, dispM_ap, muM_ap, tgM_ap, subM_ap, retM_rep, retM_new, retM_bor, chainM_ap, repM_ap, rmM_ap, isTy, callM_ap, callIO_ap, agM_f, agM_t, insR, hasSl, lenScrM_ap, ixScrM_ap, setAll, outs, endM, fnM_ap, gAdd, DL.gSub, gI, gCI, gMul, gMod, gDiv, gPow, gLen, gInt, gAbs, gNeg, gIs, gEq, gIx, isNone, boolOf, gTruth, gAppend, gPop, gPopAt, gReverse, gExtend, gListOf, gTupOf, seqOf_list, seqOf_tup, rng1, rng2, gRgL, gRgL2, eqD_int, List.getElem?_cons_zero, List.getElem?_cons_succ, List.set_cons_zero, List.set_cons_succ, List.length_cons, List.length_nil, List.nil_append, List.cons_append, List.append_nil, List.replicate_zero, List.replicate_succ, List.replicate_one, if_true, if_false, Bool.false_eq_true, reduceIte, Nat.reduceAdd, Nat.reduceSub, List.contains_cons, List.contains_nil, Bool.or_false, Nat.reduceBEq, Bool.false_or, Bool.true_or, Bool.or_true, Bool.and_true, Bool.true_and, Bool.not_true, Bool.not_false, decide_true, decide_false, show ((a : Int) < 0) = False from by simp]) ?_
    refine Wp_st (ρ1 := [.fr (.int a), .fr (.int b), .fr (.int a), .fr (.int b), .un]) (by simp -implicitDefEqProofs only [bnd_ap, opM_ap, oneM_ap, boolM_ap, truM_ap, seeM_ap, lft_ap, nameM_ap, cstM_ap, pur_ap, keep_rep, keep_new, keep_bor, see_rep, see_new, see_bor, seqM_ap, asgM_ap, dispM_ap, muM_ap, tgM_ap, subM_ap, retM_rep, retM_new, retM_bor, chainM_ap, repM_ap, rmM_ap, isTy, callM_ap, callIO_ap, agM_f, agM_t, insR, hasSl, lenScrM_ap, ixScrM_ap, setAll, outs, endM, fnM_ap, gAdd, DL.gSub, gI, gCI, gMul, gMod, gDiv, gPow, gLen, gInt, gAbs, gNeg, gIs, gEq, gIx, isNone, boolOf, gTruth, gAppend, gPop, gPopAt, gReverse, gExtend, gListOf, gTupOf, seqOf_list, seqOf_tup, rng1, rng2, gRgL, gRgL2, eqD_int, List.getElem?_cons_zero, List.getElem?_cons_succ, List.set_cons_zero, List.set_cons_succ, List.length_cons, List.length_nil, List.nil_append, List.cons_append, List.append_nil, List.replicate_zero, List.replicate_succ, List.replicate_one, if_true, if_false, Bool.false_eq_true, reduceIte, Nat.reduceAdd, Nat.reduceSub, List.contains_cons, List.contains_nil, Bool.or_false, Nat.reduceBEq, Bool.false_or, Bool.true_or, Bool.or_true, Bool.and_true, Bool.true_and, Bool.not_true, Bool.not_false, decide_true, decide_false, show ((b : Int) < 0) = False from by simp]) ?_
    refine Wp_sts (fun ρ => ∃ s0 s1 s3 s4 : Sl, ρ = [s0, s1, .fr (.int (Nat.gcd a b)), s3, s4]) ?_ ?_
    · refine Wp_bndE (a := rangeFrom 0 400) (ρ1 := [.fr (.int a), .fr (.int b), .fr (.int a), .fr (.int b), .un]) (by rfl) ?_
      refine Wp_rng (fun j ρ => ∃ (x y : Nat) (s4 : Sl), ρ = [.fr (.int a), .fr (.int b), .fr (.int x), .fr (.int y), s4] ∧ Nat.gcd x y = Nat.gcd a b ∧ x < 1073741824 ∧ y < 1073741824 ∧ (j = 0 ∨ (y < x ∧ x * y * 2 ^ j ≤ 2 * (a * b))) ∧ x * y ≤ a * b) ⟨a, b, _, rfl, rfl, hb, hc, .inl rfl, Nat.le_refl _⟩ ?_ ?_
      · rintro j ρ hj ⟨x, y, s4, rfl, hg, hx, hy, hd, hle⟩
        refine Wp.of (a := ()) (ρ := [.fr (.int a), .fr (.int b), .fr (.int x), .fr (.int y), .fr (.int (0 + j))]) rfl ?_
        rcases Nat.eq_zero_or_pos y with rfl | hp
        · refine Wp.of (a := .bk) (ρ := _) (by simp -implicitDefEqProofs only [bnd_ap, opM_ap, oneM_ap, boolM_ap, truM_ap, seeM_ap, lft_ap, nameM_ap, cstM_ap, pur_ap, keep_rep, keep_new, keep_bor, see_rep, see_new, see_bor, seqM_ap, asgM_ap, dispM_ap, muM_ap, tgM_ap, subM_ap, retM_rep, retM_new, retM_bor, chainM_ap, repM_ap, rmM_ap, isTy, callM_ap, callIO_ap, agM_f, agM_t, insR, hasSl, lenScrM_ap, ixScrM_ap, setAll, outs, endM, fnM_ap, gAdd, DL.gSub, gI, gCI, gMul, gMod, gDiv, gPow, gLen, gInt, gAbs, gNeg, gIs, gEq, gIx, isNone, boolOf, gTruth, gAppend, gPop, gPopAt, gReverse, gExtend, gListOf, gTupOf, seqOf_list, seqOf_tup, rng1, rng2, gRgL, gRgL2, eqD_int, List.getElem?_cons_zero, List.getElem?_cons_succ, List.set_cons_zero, List.set_cons_succ, List.length_cons, List.length_nil, List.nil_append, List.cons_append, List.append_nil, List.replicate_zero, List.replicate_succ, List.replicate_one, if_true, if_false, Bool.false_eq_true, reduceIte, Nat.reduceAdd, Nat.reduceSub, List.contains_cons, List.contains_nil, Bool.or_false, Nat.reduceBEq, Bool.false_or, Bool.true_or, Bool.or_true, Bool.and_true, Bool.true_and, Bool.not_true, Bool.not_false, decide_true, decide_false, show decide (((0 : Nat) : Int) = 0) = true from rfl]; rfl) ?_
          rw [Nat.gcd_zero_right] at hg
          exact ⟨rfl, _, _, _, _, by rw [← hg]⟩
        · have ed : ((x : Int)).fdiv (y : Int) = ((x / y : Nat) : Int) := by rw [Int.fdiv_eq_ediv_of_nonneg _ (by omega)]; rfl
          have em : (x : Int) - (y : Int) * ((x / y : Nat) : Int) = ((x % y : Nat) : Int) := by
            have := Nat.div_add_mod x y
            have h2 : ((y * (x / y) + x % y : Nat) : Int) = (x : Int) := by rw [this]
            rw [Int.natCast_add, Int.natCast_mul] at h2
            omega
          refine Wp.of (a := .nx) (ρ := [.fr (.int a), .fr (.int b), .fr (.int y), .fr (.int ((x % y : Nat) : Int)), .fr (.int (0 + j))]) (by simp -implicitDefEqProofs only [bnd_ap, opM_ap, oneM_ap, boolM_ap, truM_ap, seeM_ap, lft_ap, nameM_ap, cstM_ap, pur_ap, keep_rep, keep_new, keep_bor, see_rep, see_new, see_bor, seqM_ap, asgM_ap, dispM_ap, muM_ap, tgM_ap, subM_ap, retM_rep, retM_new, retM_bor, chainM_ap, repM_ap, rmM_ap, isTy, callM_ap, callIO_ap, agM_f, agM_t, insR, hasSl, lenScrM_ap, ixScrM_ap, setAll, outs, endM, fnM_ap, gAdd, DL.gSub, gI, gCI, gMul, gMod, gDiv, gPow, gLen, gInt, gAbs, gNeg, gIs, gEq, gIx, isNone, boolOf, gTruth, gAppend, gPop, gPopAt, gReverse, gExtend, gListOf, gTupOf, seqOf_list, seqOf_tup, rng1, rng2, gRgL, gRgL2, eqD_int, List.getElem?_cons_zero, List.getElem?_cons_succ, List.set_cons_zero, List.set_cons_succ, List.length_cons, List.length_nil, List.nil_append, List.cons_append, List.append_nil, List.replicate_zero, List.replicate_succ, List.replicate_one, if_true, if_false, Bool.false_eq_true, reduceIte, Nat.reduceAdd, Nat.reduceSub, List.contains_cons, List.contains_nil, Bool.or_false, Nat.reduceBEq, Bool.false_or, Bool.true_or, Bool.or_true, Bool.and_true, Bool.true_and, Bool.not_true, Bool.not_false, decide_true, decide_false, decide_eq_false (show ¬ (y : Int) = 0 by omega), divc (y : Int) (by omega) (by omega), ed, em, mulc (y : Int) ((x / y : Nat) : Int) (by omega)]) ?_
          have hm := Nat.mod_lt x hp
          have hg2 : Nat.gcd y (x % y) = Nat.gcd a b := by
            rw [← hg, Nat.gcd_comm x y, Nat.gcd_rec y x, Nat.gcd_comm]
          have two : y ≤ x → 2 * (x % y) ≤ x := fun h => by
            have h1 := Nat.div_add_mod x y
            have h2 : 1 ≤ x / y := (Nat.one_le_div_iff hp).mpr h
            have h3 : y * 1 ≤ y * (x / y) := Nat.mul_le_mul_left _ h2
            omega
          refine ⟨y, x % y, _, rfl, hg2, hy, by omega, .inr ⟨hm, ?_⟩, ?_⟩
          · rcases hd with rfl | ⟨h1, h2⟩
            · have : y * (x % y) ≤ y * x := Nat.mul_le_mul_left _ (Nat.mod_le _ _)
              rw [Nat.mul_comm y x] at this
              show y * (x % y) * 2 ^ 1 ≤ _
              omega
            · have h3 : y * (2 * (x % y)) ≤ y * x := Nat.mul_le_mul_left _ (two (by omega))
              have h4 : y * (2 * (x % y)) * 2 ^ j ≤ y * x * 2 ^ j := Nat.mul_le_mul_right _ h3
              have h5 : y * (x % y) * 2 ^ (j + 1) = y * (2 * (x % y)) * 2 ^ j := by
                rw [Nat.pow_succ, Nat.mul_left_comm y 2, Nat.mul_comm (2 ^ j) 2, ← Nat.mul_assoc (y * (x % y)), Nat.mul_comm 2 (y * (x % y))]
              rw [h5]
              rw [Nat.mul_comm y x] at h4
              omega
          · have : y * (x % y) ≤ y * x := Nat.mul_le_mul_left _ (Nat.mod_le _ _)
            rw [Nat.mul_comm y x] at this
            omega
      · rintro ρ ⟨x, y, s4, rfl, hg, hx, hy, hd, hle⟩
        rcases hd with hd | ⟨h1, h2⟩
        · exact absurd hd (by decide)
        · have y0 : y = 0 := by
            rcases Nat.eq_zero_or_pos y with h | h
            · exact h
            · exfalso
              have h3 : 1 ≤ x * y := Nat.mul_pos (by omega) h
              have h4 : 1 * 2 ^ 400 ≤ x * y * 2 ^ 400 := Nat.mul_le_mul_right _ h3
              have h5 : 2 * (a * b) < 2 * 2 ^ 300 := by omega
              have h6 : (2 : Nat) * 2 ^ 300 ≤ 1 * 2 ^ 400 := by
                rw [Nat.one_mul, ← Nat.pow_succ']; exact Nat.pow_le_pow_right (by decide) (by decide)
              exact Nat.lt_irrefl _ (Nat.lt_of_le_of_lt (Nat.le_trans h6 (Nat.le_trans h4 h2)) h5)
          subst y0
          rw [Nat.gcd_zero_right] at hg
          exact ⟨rfl, _, _, _, _, by rw [← hg]⟩
    · rintro ρ ⟨s0, s1, s3, s4, rfl⟩
      exact Wp.of (by simp -implicitDefEqProofs only [bnd_ap, opM_ap, oneM_ap, boolM_ap, truM_ap, seeM_ap, lft_ap, nameM_ap, cstM_ap, pur_ap, keep_rep, keep_new, keep_bor, see_rep, see_new, see_bor, seqM_ap, asgM_ap, dispM_ap, muM_ap, tgM_ap, subM_ap, retM_rep, retM_new, retM_bor, chainM_ap, repM_ap, rmM_ap, isTy, callM_ap, callIO_ap, agM_f, agM_t, insR, hasSl, lenScrM_ap, ixScrM_ap, setAll, outs, endM, fnM_ap, gAdd, DL.gSub, gI, gCI, gMul, gMod, gDiv, gPow, gLen, gInt, gAbs, gNeg, gIs, gEq, gIx, isNone, boolOf, gTruth, gAppend, gPop, gPopAt, gReverse, gExtend, gListOf, gTupOf, seqOf_list, seqOf_tup, rng1, rng2, gRgL, gRgL2, eqD_int, List.getElem?_cons_zero, List.getElem?_cons_succ, List.set_cons_zero, List.set_cons_succ, List.length_cons, List.length_nil, List.nil_append, List.cons_append, List.append_nil, List.replicate_zero, List.replicate_succ, List.replicate_one, if_true, if_false, Bool.false_eq_true, reduceIte, Nat.reduceAdd, Nat.reduceSub, List.contains_cons, List.contains_nil, Bool.or_false, Nat.reduceBEq, Bool.false_or, Bool.true_or, Bool.or_true, Bool.and_true, Bool.true_and, Bool.not_true, Bool.not_false, decide_true, decide_false]; rfl) rfl
  exact fn_of_wp (main.mono fun c ρ e => by subst e; rfl)
theorem pairs_key (n : Nat) (ins : En) : φ__law_pairs (n + 1) ins = fnM (([] ++ []) ++ (([] ++ []) ++ ([2] ++ (([3] ++ ([2] ++ [])) ++ [])))) 5 (t__law_pairs (φ__law_pairs n)) ins := rfl
theorem prs_ok : ∀ (n a c : Nat), n ≤ 12 → 0 < c → a < c * 2 ^ n → φ__law_pairs (n + 1) [.fr (.int a), .fr (.int c)] = some (.new (dl (prs (n + 1) a c)), [.un, .un]) := by
  intro n
  induction n with
  | zero =>
    intro a c _ hc ha
    rw [pairs_key]
    rcases Nat.eq_zero_or_pos a with rfl | hp
    · simp -implicitDefEqProofs only [bnd_ap, opM_ap, oneM_ap, boolM_ap, truM_ap, seeM_ap, lft_ap, nameM_ap, cstM_ap, pur_ap, keep_rep, keep_new, keep_bor, see_rep, see_new, see_bor, seqM_ap, asgM_ap, dispM_ap, muM_ap, tgM_ap, subM_ap, retM_rep, retM_new, retM_bor, chainM_ap, repM_ap, rmM_ap, isTy, callM_ap, callIO_ap, agM_f, agM_t, insR, hasSl, lenScrM_ap, ixScrM_ap, setAll, outs, endM, fnM_ap, gAdd, DL.gSub, gI, gCI, gMul, gMod, gDiv, gPow, gLen, gInt, gAbs, gNeg, gIs, gEq, gIx, isNone, boolOf, gTruth, gAppend, gPop, gPopAt, gReverse, gExtend, gListOf, gTupOf, seqOf_list, seqOf_tup, rng1, rng2, gRgL, gRgL2, eqD_int, List.getElem?_cons_zero, List.getElem?_cons_succ, List.set_cons_zero, List.set_cons_succ, List.length_cons, List.length_nil, List.nil_append, List.cons_append, List.append_nil, List.replicate_zero, List.replicate_succ, List.replicate_one, if_true, if_false, Bool.false_eq_true, reduceIte, Nat.reduceAdd, Nat.reduceSub, List.contains_cons, List.contains_nil, Bool.or_false, Nat.reduceBEq, Bool.false_or, Bool.true_or, Bool.or_true, Bool.and_true, Bool.true_and, Bool.not_true, Bool.not_false, decide_true, decide_false, t__law_pairs, prs, d0, d1, show decide (((0 : Nat) : Int) = 0) = true from rfl]; rfl
    · simp -implicitDefEqProofs only [bnd_ap, opM_ap, oneM_ap, boolM_ap, truM_ap, seeM_ap, lft_ap, nameM_ap, cstM_ap, pur_ap, keep_rep, keep_new, keep_bor, see_rep, see_new, see_bor, seqM_ap, asgM_ap, dispM_ap, muM_ap, tgM_ap, subM_ap, retM_rep, retM_new, retM_bor, chainM_ap, repM_ap, rmM_ap, isTy, callM_ap, callIO_ap, agM_f, agM_t, insR, hasSl, lenScrM_ap, ixScrM_ap, setAll, outs, endM, fnM_ap, gAdd, DL.gSub, gI, gCI, gMul, gMod, gDiv, gPow, gLen, gInt, gAbs, gNeg, gIs, gEq, gIx, isNone, boolOf, gTruth, gAppend, gPop, gPopAt, gReverse, gExtend, gListOf, gTupOf, seqOf_list, seqOf_tup, rng1, rng2, gRgL, gRgL2, eqD_int, List.getElem?_cons_zero, List.getElem?_cons_succ, List.set_cons_zero, List.set_cons_succ, List.length_cons, List.length_nil, List.nil_append, List.cons_append, List.append_nil, List.replicate_zero, List.replicate_succ, List.replicate_one, if_true, if_false, Bool.false_eq_true, reduceIte, Nat.reduceAdd, Nat.reduceSub, List.contains_cons, List.contains_nil, Bool.or_false, Nat.reduceBEq, Bool.false_or, Bool.true_or, Bool.or_true, Bool.and_true, Bool.true_and, Bool.not_true, Bool.not_false, decide_true, decide_false, t__law_pairs, prs, d0, d1, decide_eq_false (show ¬ (a : Int) = 0 by omega), decide_eq_true (show (a : Int) < (c : Int) by omega), if_neg (show ¬ a = 0 by omega), if_pos (show a < c by omega)]; rfl
  | succ n ih =>
    intro a c hn hc ha
    rw [pairs_key]
    rcases Nat.eq_zero_or_pos a with rfl | hp
    · simp -implicitDefEqProofs only [bnd_ap, opM_ap, oneM_ap, boolM_ap, truM_ap, seeM_ap, lft_ap, nameM_ap, cstM_ap, pur_ap, keep_rep, keep_new, keep_bor, see_rep, see_new, see_bor, seqM_ap, asgM_ap, dispM_ap, muM_ap, tgM_ap, subM_ap, retM_rep, retM_new, retM_bor, chainM_ap, repM_ap, rmM_ap, isTy, callM_ap, callIO_ap, agM_f, agM_t, insR, hasSl, lenScrM_ap, ixScrM_ap, setAll, outs, endM, fnM_ap, gAdd, DL.gSub, gI, gCI, gMul, gMod, gDiv, gPow, gLen, gInt, gAbs, gNeg, gIs, gEq, gIx, isNone, boolOf, gTruth, gAppend, gPop, gPopAt, gReverse, gExtend, gListOf, gTupOf, seqOf_list, seqOf_tup, rng1, rng2, gRgL, gRgL2, eqD_int, List.getElem?_cons_zero, List.getElem?_cons_succ, List.set_cons_zero, List.set_cons_succ, List.length_cons, List.length_nil, List.nil_append, List.cons_append, List.append_nil, List.replicate_zero, List.replicate_succ, List.replicate_one, if_true, if_false, Bool.false_eq_true, reduceIte, Nat.reduceAdd, Nat.reduceSub, List.contains_cons, List.contains_nil, Bool.or_false, Nat.reduceBEq, Bool.false_or, Bool.true_or, Bool.or_true, Bool.and_true, Bool.true_and, Bool.not_true, Bool.not_false, decide_true, decide_false, t__law_pairs, prs, d0, d1, show decide (((0 : Nat) : Int) = 0) = true from rfl]; rfl
    by_cases hac : a < c
    · simp -implicitDefEqProofs only [bnd_ap, opM_ap, oneM_ap, boolM_ap, truM_ap, seeM_ap, lft_ap, nameM_ap, cstM_ap, pur_ap, keep_rep, keep_new, keep_bor, see_rep, see_new, see_bor, seqM_ap, asgM_ap, dispM_ap, muM_ap, tgM_ap, subM_ap, retM_rep, retM_new, retM_bor, chainM_ap, repM_ap, rmM_ap, isTy, callM_ap, callIO_ap, agM_f, agM_t, insR, hasSl, lenScrM_ap, ixScrM_ap, setAll, outs, endM, fnM_ap, gAdd, DL.gSub, gI, gCI, gMul, gMod, gDiv, gPow, gLen, gInt, gAbs, gNeg, gIs, gEq, gIx, isNone, boolOf, gTruth, gAppend, gPop, gPopAt, gReverse, gExtend, gListOf, gTupOf, seqOf_list, seqOf_tup, rng1, rng2, gRgL, gRgL2, eqD_int, List.getElem?_cons_zero, List.getElem?_cons_succ, List.set_cons_zero, List.set_cons_succ, List.length_cons, List.length_nil, List.nil_append, List.cons_append, List.append_nil, List.replicate_zero, List.replicate_succ, List.replicate_one, if_true, if_false, Bool.false_eq_true, reduceIte, Nat.reduceAdd, Nat.reduceSub, List.contains_cons, List.contains_nil, Bool.or_false, Nat.reduceBEq, Bool.false_or, Bool.true_or, Bool.or_true, Bool.and_true, Bool.true_and, Bool.not_true, Bool.not_false, decide_true, decide_false, t__law_pairs, prs, d0, d1, decide_eq_false (show ¬ (a : Int) = 0 by omega), decide_eq_true (show (a : Int) < (c : Int) by omega), if_neg (show ¬ a = 0 by omega), if_pos hac]; rfl
    have hpl : ∀ j, (ppart (n + 1) a c j).length ≤ 3 ^ (n + 1) := fun j => by
      unfold ppart
      split
      · rw [List.length_map]; exact prs_len _ _ _
      · simp
    have hb : (3 : Nat) ^ (n + 1) ≤ 3 ^ 12 := Nat.pow_le_pow_right (by decide) hn
    have hb2 : (3 : Nat) ^ 12 = 531441 := by decide
    have main : Wp (t__law_pairs (φ__law_pairs (n + 1)) [.fr (.int a), .fr (.int c), .un, .un, .un]) fun ct ρ => ct = .rt (.new (dl (prs (n + 1 + 1) a c))) := by
      unfold t__law_pairs
      refine Wp_st (ρ1 := [.fr (.int a), .fr (.int c), .un, .un, .un]) (by simp -implicitDefEqProofs only [bnd_ap, opM_ap, oneM_ap, boolM_ap, truM_ap, seeM_ap, lft_ap, nameM_ap, cstM_ap, pur_ap, keep_rep, keep_new, keep_bor, see_rep, see_new, see_bor, seqM_ap, asgM_ap, dispM_ap, muM_ap, tgM_ap, subM_ap, retM_rep, retM_new, retM_bor, chainM_ap, repM_ap, rmM_ap, isTy, callM_ap, callIO_ap, agM_f, agM_t, insR, hasSl, lenScrM_ap, ixScrM_ap, setAll, outs, endM, fnM_ap, gAdd, DL.gSub, gI, gCI, gMul, gMod, gDiv, gPow, gLen, gInt, gAbs, gNeg, gIs, gEq, gIx, isNone, boolOf, gTruth, gAppend, gPop, gPopAt, gReverse, gExtend, gListOf, gTupOf, seqOf_list, seqOf_tup, rng1, rng2, gRgL, gRgL2, eqD_int, List.getElem?_cons_zero, List.getElem?_cons_succ, List.set_cons_zero, List.set_cons_succ, List.length_cons, List.length_nil, List.nil_append, List.cons_append, List.append_nil, List.replicate_zero, List.replicate_succ, List.replicate_one, if_true, if_false, Bool.false_eq_true, reduceIte, Nat.reduceAdd, Nat.reduceSub, List.contains_cons, List.contains_nil, Bool.or_false, Nat.reduceBEq, Bool.false_or, Bool.true_or, Bool.or_true, Bool.and_true, Bool.true_and, Bool.not_true, Bool.not_false, decide_true, decide_false, decide_eq_false (show ¬ (a : Int) = 0 by omega)]) ?_
      refine Wp_st (ρ1 := [.fr (.int a), .fr (.int c), .un, .un, .un]) (by simp -implicitDefEqProofs only [bnd_ap, opM_ap, oneM_ap, boolM_ap, truM_ap, seeM_ap, lft_ap, nameM_ap, cstM_ap, pur_ap, keep_rep, keep_new, keep_bor, see_rep, see_new, see_bor, seqM_ap, asgM_ap, dispM_ap, muM_ap, tgM_ap, subM_ap, retM_rep, retM_new, retM_bor, chainM_ap, repM_ap, rmM_ap, isTy, callM_ap, callIO_ap, agM_f, agM_t, insR, hasSl, lenScrM_ap, ixScrM_ap, setAll, outs, endM, fnM_ap, gAdd, DL.gSub, gI, gCI, gMul, gMod, gDiv, gPow, gLen, gInt, gAbs, gNeg, gIs, gEq, gIx, isNone, boolOf, gTruth, gAppend, gPop, gPopAt, gReverse, gExtend, gListOf, gTupOf, seqOf_list, seqOf_tup, rng1, rng2, gRgL, gRgL2, eqD_int, List.getElem?_cons_zero, List.getElem?_cons_succ, List.set_cons_zero, List.set_cons_succ, List.length_cons, List.length_nil, List.nil_append, List.cons_append, List.append_nil, List.replicate_zero, List.replicate_succ, List.replicate_one, if_true, if_false, Bool.false_eq_true, reduceIte, Nat.reduceAdd, Nat.reduceSub, List.contains_cons, List.contains_nil, Bool.or_false, Nat.reduceBEq, Bool.false_or, Bool.true_or, Bool.or_true, Bool.and_true, Bool.true_and, Bool.not_true, Bool.not_false, decide_true, decide_false, decide_eq_false (show ¬ (a : Int) < (c : Int) by omega)]) ?_
      refine Wp_st (ρ1 := [.fr (.int a), .fr (.int c), .own (dl []), .un, .un]) (by simp -implicitDefEqProofs only [bnd_ap, opM_ap, oneM_ap, boolM_ap, truM_ap, seeM_ap, lft_ap, nameM_ap, cstM_ap, pur_ap, keep_rep, keep_new, keep_bor, see_rep, see_new, see_bor, seqM_ap, asgM_ap, dispM_ap, muM_ap, tgM_ap, subM_ap, retM_rep, retM_new, retM_bor, chainM_ap, repM_ap, rmM_ap, isTy, callM_ap, callIO_ap, agM_f, agM_t, insR, hasSl, lenScrM_ap, ixScrM_ap, setAll, outs, endM, fnM_ap, gAdd, DL.gSub, gI, gCI, gMul, gMod, gDiv, gPow, gLen, gInt, gAbs, gNeg, gIs, gEq, gIx, isNone, boolOf, gTruth, gAppend, gPop, gPopAt, gReverse, gExtend, gListOf, gTupOf, seqOf_list, seqOf_tup, rng1, rng2, gRgL, gRgL2, eqD_int, List.getElem?_cons_zero, List.getElem?_cons_succ, List.set_cons_zero, List.set_cons_succ, List.length_cons, List.length_nil, List.nil_append, List.cons_append, List.append_nil, List.replicate_zero, List.replicate_succ, List.replicate_one, if_true, if_false, Bool.false_eq_true, reduceIte, Nat.reduceAdd, Nat.reduceSub, List.contains_cons, List.contains_nil, Bool.or_false, Nat.reduceBEq, Bool.false_or, Bool.true_or, Bool.or_true, Bool.and_true, Bool.true_and, Bool.not_true, Bool.not_false, decide_true, decide_false, d0]; rfl) ?_
      refine Wp_sts (fun ρ => ∃ s0 s1 s3 s4 : Sl, ρ = [s0, s1, .own (dl (prs (n + 1 + 1) a c)), s3, s4]) ?_ ?_
      · refine Wp_bndE (a := rangeFrom 0 3) (ρ1 := [.fr (.int a), .fr (.int c), .own (dl []), .un, .un]) (by rfl) ?_
        refine Wp_rng (fun j ρ => ∃ s3 : Sl, ρ = [.fr (.int a), .fr (.int c), .own (dl (parts (ppart (n + 1) a c) j)), s3, .un]) ⟨_, rfl⟩ ?_ ?_
        · rintro j ρ hj ⟨s3, rfl⟩
          have h0j : (0 : Int) + (j : Int) = ((j : Nat) : Int) := by omega
          rw [h0j]
          refine Wp.of (a := ()) (ρ := [.fr (.int a), .fr (.int c), .own (dl (parts (ppart (n + 1) a c) j)), .fr (.int ((j : Nat) : Int)), .un]) rfl ?_
          have hcast : ((j : Nat) : Int) * (c : Int) = ((j * c : Nat) : Int) := by rw [Int.natCast_mul]
          by_cases hle : j * c ≤ a
          · have hsub : (a : Int) - ((j * c : Nat) : Int) = ((a - j * c : Nat) : Int) := by omega
            have hdbl : (2 : Int) * (c : Int) = ((2 * c : Nat) : Int) := by omega
            have i1 := ih (a - j * c) (2 * c) (by omega) (by omega) (by rw [Nat.pow_succ] at ha; rw [Nat.mul_comm 2 c, Nat.mul_assoc, Nat.mul_comm 2]; omega)
            have hrow := prs_row (n + 1) (a - j * c) (2 * c)
            have hl1 := prs_len (n + 1) (a - j * c) (2 * c)
            have hm : ∀ ρ4 : List Sl, ρ4 = [.fr (.int a), .fr (.int c), .own (dl (parts (ppart (n + 1) a c) j)), .fr (.int ((j : Nat) : Int)), .un] → lcL [4] (tgM 4) (pur true) (opM gAdd (dispM (fun ds => .new (.list ds)) (bnd (bnd (nameM 3) keep) fun d => bnd (fun ρ => some ([], ρ)) fun ds => pur (d :: ds))) (nameM 4)) ((prs (n + 1) (a - j * c) (2 * c)).map fun r => PyData.list (r.map PyData.int)) ρ4 = some ((ppart (n + 1) a c j).map fun r => PyData.list (r.map PyData.int), ρ4) := by
              rintro ρ4 rfl
              rw [lcL_map (fun d => match d with | .list l => .list (.int j :: l) | d => d)]
              · unfold ppart
                rw [if_pos hle, List.map_map, List.map_map]
                rfl
              · intro d hd
                obtain ⟨r, hr, rfl⟩ := List.mem_map.mp hd
                have := hrow r hr
                simp -implicitDefEqProofs only [bnd_ap, opM_ap, oneM_ap, boolM_ap, truM_ap, seeM_ap, lft_ap, nameM_ap, cstM_ap, pur_ap, keep_rep, keep_new, keep_bor, see_rep, see_new, see_bor, seqM_ap, asgM_ap, dispM_ap, muM_ap, tgM_ap, subM_ap, retM_rep, retM_new, retM_bor, chainM_ap, repM_ap, rmM_ap, isTy, callM_ap, callIO_ap, agM_f, agM_t, insR, hasSl, lenScrM_ap, ixScrM_ap, setAll, outs, endM, fnM_ap, gAdd, DL.gSub, gI, gCI, gMul, gMod, gDiv, gPow, gLen, gInt, gAbs, gNeg, gIs, gEq, gIx, isNone, boolOf, gTruth, gAppend, gPop, gPopAt, gReverse, gExtend, gListOf, gTupOf, seqOf_list, seqOf_tup, rng1, rng2, gRgL, gRgL2, eqD_int, List.getElem?_cons_zero, List.getElem?_cons_succ, List.set_cons_zero, List.set_cons_succ, List.length_cons, List.length_nil, List.nil_append, List.cons_append, List.append_nil, List.replicate_zero, List.replicate_succ, List.replicate_one, if_true, if_false, Bool.false_eq_true, reduceIte, Nat.reduceAdd, Nat.reduceSub, List.contains_cons, List.contains_nil, Bool.or_false, Nat.reduceBEq, Bool.false_or, Bool.true_or, Bool.or_true, Bool.and_true, Bool.true_and, Bool.not_true, Bool.not_false, decide_true, decide_false, lcT, wipeE, d1, show ((0 + 1 + (r.map PyData.int).length : Nat) ≤ 16777216) = True from by rw [List.length_map]; simp; omega]
            have hlen : (((parts (ppart (n + 1) a c) j).map fun r => PyData.list (r.map PyData.int)).length + ((ppart (n + 1) a c j).map fun r => PyData.list (r.map PyData.int)).length ≤ 16777216) = True := by
              have h1 := parts_len hpl j
              have h2 := hpl j
              have h3 : j * 3 ^ (n + 1) ≤ 3 * 3 ^ (n + 1) := Nat.mul_le_mul_right _ (by omega)
              rw [List.length_map, List.length_map]; simp; omega
            refine Wp.of (a := .nx) (ρ := [.fr (.int a), .fr (.int c), .own (dl (parts (ppart (n + 1) a c) (j + 1))), .fr (.int ((j : Nat) : Int)), .un]) (by
              simp -implicitDefEqProofs only [bnd_ap, opM_ap, oneM_ap, boolM_ap, truM_ap, seeM_ap, lft_ap, nameM_ap, cstM_ap, pur_ap, keep_rep, keep_new, keep_bor, see_rep, see_new, see_bor, seqM_ap, asgM_ap, dispM_ap, muM_ap, tgM_ap, subM_ap, retM_rep, retM_new, retM_bor, chainM_ap, repM_ap, rmM_ap, isTy, callM_ap, callIO_ap, agM_f, agM_t, insR, hasSl, lenScrM_ap, ixScrM_ap, setAll, outs, endM, fnM_ap, gAdd, DL.gSub, gI, gCI, gMul, gMod, gDiv, gPow, gLen, gInt, gAbs, gNeg, gIs, gEq, gIx, isNone, boolOf, gTruth, gAppend, gPop, gPopAt, gReverse, gExtend, gListOf, gTupOf, seqOf_list, seqOf_tup, rng1, rng2, gRgL, gRgL2, eqD_int, List.getElem?_cons_zero, List.getElem?_cons_succ, List.set_cons_zero, List.set_cons_succ, List.length_cons, List.length_nil, List.nil_append, List.cons_append, List.append_nil, List.replicate_zero, List.replicate_succ, List.replicate_one, if_true, if_false, Bool.false_eq_true, reduceIte, Nat.reduceAdd, Nat.reduceSub, List.contains_cons, List.contains_nil, Bool.or_false, Nat.reduceBEq, Bool.false_or, Bool.true_or, Bool.or_true, Bool.and_true, Bool.true_and, Bool.not_true, Bool.not_false, decide_true, decide_false, hcast, hsub, hdbl, mulc ((j : Nat) : Int) (c : Int) (by omega), mulc 2 (c : Int) (by decide), decide_eq_true (show ((j * c : Nat) : Int) ≤ (a : Int) by omega), lcM, i1, wipeE, hm, mend, hlen, show (((prs (n + 1) (a - j * c) (2 * c)).map fun r => PyData.list (r.map PyData.int)).length ≤ 16777216) = True from by rw [List.length_map]; simp; omega]
              rw [← List.map_append]; rfl) ⟨_, rfl⟩
          · refine Wp.of (a := .nx) (ρ := [.fr (.int a), .fr (.int c), .own (dl (parts (ppart (n + 1) a c) (j + 1))), .fr (.int ((j : Nat) : Int)), .un]) (by
              simp -implicitDefEqProofs only [bnd_ap, opM_ap, oneM_ap, boolM_ap, truM_ap, seeM_ap, lft_ap, nameM_ap, cstM_ap, pur_ap, keep_rep, keep_new, keep_bor, see_rep, see_new, see_bor, seqM_ap, asgM_ap, dispM_ap, muM_ap, tgM_ap, subM_ap, retM_rep, retM_new, retM_bor, chainM_ap, repM_ap, rmM_ap, isTy, callM_ap, callIO_ap, agM_f, agM_t, insR, hasSl, lenScrM_ap, ixScrM_ap, setAll, outs, endM, fnM_ap, gAdd, DL.gSub, gI, gCI, gMul, gMod, gDiv, gPow, gLen, gInt, gAbs, gNeg, gIs, gEq, gIx, isNone, boolOf, gTruth, gAppend, gPop, gPopAt, gReverse, gExtend, gListOf, gTupOf, seqOf_list, seqOf_tup, rng1, rng2, gRgL, gRgL2, eqD_int, List.getElem?_cons_zero, List.getElem?_cons_succ, List.set_cons_zero, List.set_cons_succ, List.length_cons, List.length_nil, List.nil_append, List.cons_append, List.append_nil, List.replicate_zero, List.replicate_succ, List.replicate_one, if_true, if_false, Bool.false_eq_true, reduceIte, Nat.reduceAdd, Nat.reduceSub, List.contains_cons, List.contains_nil, Bool.or_false, Nat.reduceBEq, Bool.false_or, Bool.true_or, Bool.or_true, Bool.and_true, Bool.true_and, Bool.not_true, Bool.not_false, decide_true, decide_false, hcast, mulc ((j : Nat) : Int) (c : Int) (by omega), decide_eq_false (show ¬ ((j * c : Nat) : Int) ≤ (a : Int) by omega)]
              rw [parts, ppart, if_neg hle, List.append_nil]) ⟨_, rfl⟩
        · rintro ρ ⟨s3, rfl⟩
          exact ⟨rfl, _, _, _, _, by rw [prs_ge (n + 1) a c (by omega) (by omega)]⟩
      · rintro ρ ⟨s0, s1, s3, s4, rfl⟩
        exact Wp.of (by simp -implicitDefEqProofs only [bnd_ap, opM_ap, oneM_ap, boolM_ap, truM_ap, seeM_ap, lft_ap, nameM_ap, cstM_ap, pur_ap, keep_rep, keep_new, keep_bor, see_rep, see_new, see_bor, seqM_ap, asgM_ap, dispM_ap, muM_ap, tgM_ap, subM_ap, retM_rep, retM_new, retM_bor, chainM_ap, repM_ap, rmM_ap, isTy, callM_ap, callIO_ap, agM_f, agM_t, insR, hasSl, lenScrM_ap, ixScrM_ap, setAll, outs, endM, fnM_ap, gAdd, DL.gSub, gI, gCI, gMul, gMod, gDiv, gPow, gLen, gInt, gAbs, gNeg, gIs, gEq, gIx, isNone, boolOf, gTruth, gAppend, gPop, gPopAt, gReverse, gExtend, gListOf, gTupOf, seqOf_list, seqOf_tup, rng1, rng2, gRgL, gRgL2, eqD_int, List.getElem?_cons_zero, List.getElem?_cons_succ, List.set_cons_zero, List.set_cons_succ, List.length_cons, List.length_nil, List.nil_append, List.cons_append, List.append_nil, List.replicate_zero, List.replicate_succ, List.replicate_one, if_true, if_false, Bool.false_eq_true, reduceIte, Nat.reduceAdd, Nat.reduceSub, List.contains_cons, List.contains_nil, Bool.or_false, Nat.reduceBEq, Bool.false_or, Bool.true_or, Bool.or_true, Bool.and_true, Bool.true_and, Bool.not_true, Bool.not_false, decide_true, decide_false]; rfl) rfl
    exact fn_of_wp (main.mono fun c ρ e => by subst e; rfl)
theorem at0 (a b : D) : L2.atI [a, b] 0 = some a := rfl
theorem at1 (a b : D) : L2.atI [a, b] 1 = some b := rfl
theorem frac_ok (p q : Nat) (co : Nat.gcd p q = 1) (hp : p < 1073741824) (hq : q < 1073741824) : φ__law_frac [.fr (.int p), .fr (.int q)] = some (.rep (.tuple [.int p, .int q]), [.un, .un]) := by
  have hb : p * q < 2 ^ 300 := by
    have h1 : p * q ≤ 1073741824 * 1073741824 := Nat.mul_le_mul (by omega) (by omega)
    have h2 : (1073741824 : Nat) * 1073741824 = 2 ^ 60 := by decide
    have h3 : (2 : Nat) ^ 60 < 2 ^ 300 := Nat.pow_lt_pow_right (by decide) (by decide)
    rw [h2] at h1
    exact Nat.lt_of_le_of_lt h1 h3
  have g := gcd_ok p q hb hp hq
  rw [co] at g
  simp -implicitDefEqProofs only [bnd_ap, opM_ap, oneM_ap, boolM_ap, truM_ap, seeM_ap, lft_ap, nameM_ap, cstM_ap, pur_ap, keep_rep, keep_new, keep_bor, see_rep, see_new, see_bor, seqM_ap, asgM_ap, dispM_ap, muM_ap, tgM_ap, subM_ap, retM_rep, retM_new, retM_bor, chainM_ap, repM_ap, rmM_ap, isTy, callM_ap, callIO_ap, agM_f, agM_t, insR, hasSl, lenScrM_ap, ixScrM_ap, setAll, outs, endM, fnM_ap, gAdd, DL.gSub, gI, gCI, gMul, gMod, gDiv, gPow, gLen, gInt, gAbs, gNeg, gIs, gEq, gIx, isNone, boolOf, gTruth, gAppend, gPop, gPopAt, gReverse, gExtend, gListOf, gTupOf, seqOf_list, seqOf_tup, rng1, rng2, gRgL, gRgL2, eqD_int, List.getElem?_cons_zero, List.getElem?_cons_succ, List.set_cons_zero, List.set_cons_succ, List.length_cons, List.length_nil, List.nil_append, List.cons_append, List.append_nil, List.replicate_zero, List.replicate_succ, List.replicate_one, if_true, if_false, Bool.false_eq_true, reduceIte, Nat.reduceAdd, Nat.reduceSub, List.contains_cons, List.contains_nil, Bool.or_false, Nat.reduceBEq, Bool.false_or, Bool.true_or, Bool.or_true, Bool.and_true, Bool.true_and, Bool.not_true, Bool.not_false, decide_true, decide_false, φ__law_frac, t__law_frac, g, show decide ((q : Int) < 0) = false from decide_eq_false (by omega), show (((1 : Nat) : Int) != 0) = true from rfl, show decide (Int.natAbs ((1 : Nat) : Int) < 1073741824) = true from by decide, show ((p : Int).fdiv ((1 : Nat) : Int)) = (p : Int) from Int.fdiv_one _, show ((q : Int).fdiv ((1 : Nat) : Int)) = (q : Int) from Int.fdiv_one _, d2]
theorem behind_ok (p q r : Nat) (hq : 0 < q) (co : Nat.gcd r q = 1) (hr : r + p = (2 * (p / q) + 1) * q) (b1 : p < 1073741824) (b2 : q < 1073741824) (b3 : r < 1073741824) : φ__law_behind [.fr (.tuple [.int p, .int q])] = some (.rep (.tuple [.int q, .int r]), [.un]) := by
  have f1 := frac_ok r q co b3 b2
  have f2 := frac_ok q r (by rw [Nat.gcd_comm]; exact co) b2 b3
  have ed : ((p : Int)).fdiv (q : Int) = ((p / q : Nat) : Int) := by rw [Int.fdiv_eq_ediv_of_nonneg _ (by omega)]; rfl
  have eb : (1 + 2 * ((p / q : Nat) : Int)) * (q : Int) = ((r + p : Nat) : Int) := by
    rw [hr, Int.natCast_mul, Int.natCast_add, Int.natCast_mul, Int.add_comm]; rfl
  have hm : φ__law_minus [.fr (.tuple [.int (1 + 2 * ((p / q : Nat) : Int)), .int 1]), .fr (.tuple [.int p, .int q])] = some (.rep (.tuple [.int r, .int q]), [.un, .un]) := by
    have hw : (1 + 2 * ((p / q : Nat) : Int)).natAbs < 18446744073709551616 := by
      have : p / q ≤ p := Nat.div_le_self _ _
      generalize p / q = w at this ⊢
      omega
    simp -implicitDefEqProofs only [bnd_ap, opM_ap, oneM_ap, boolM_ap, truM_ap, seeM_ap, lft_ap, nameM_ap, cstM_ap, pur_ap, keep_rep, keep_new, keep_bor, see_rep, see_new, see_bor, seqM_ap, asgM_ap, dispM_ap, muM_ap, tgM_ap, subM_ap, retM_rep, retM_new, retM_bor, chainM_ap, repM_ap, rmM_ap, isTy, callM_ap, callIO_ap, agM_f, agM_t, insR, hasSl, lenScrM_ap, ixScrM_ap, setAll, outs, endM, fnM_ap, gAdd, DL.gSub, gI, gCI, gMul, gMod, gDiv, gPow, gLen, gInt, gAbs, gNeg, gIs, gEq, gIx, isNone, boolOf, gTruth, gAppend, gPop, gPopAt, gReverse, gExtend, gListOf, gTupOf, seqOf_list, seqOf_tup, rng1, rng2, gRgL, gRgL2, eqD_int, List.getElem?_cons_zero, List.getElem?_cons_succ, List.set_cons_zero, List.set_cons_succ, List.length_cons, List.length_nil, List.nil_append, List.cons_append, List.append_nil, List.replicate_zero, List.replicate_succ, List.replicate_one, if_true, if_false, Bool.false_eq_true, reduceIte, Nat.reduceAdd, Nat.reduceSub, List.contains_cons, List.contains_nil, Bool.or_false, Nat.reduceBEq, Bool.false_or, Bool.true_or, Bool.or_true, Bool.and_true, Bool.true_and, Bool.not_true, Bool.not_false, decide_true, decide_false, φ__law_minus, t__law_minus, at0, at1, mulc _ (q : Int) hw, mulc (p : Int) 1 (by omega), mulc 1 (q : Int) (by decide), eb, Int.mul_one, Int.one_mul, show (((r + p : Nat) : Int) - (p : Int)) = (r : Int) from by omega, f1]
  have ho : φ__law_over [.fr (.tuple [.int 1, .int 1]), .fr (.tuple [.int r, .int q])] = some (.rep (.tuple [.int q, .int r]), [.un, .un]) := by
    simp -implicitDefEqProofs only [bnd_ap, opM_ap, oneM_ap, boolM_ap, truM_ap, seeM_ap, lft_ap, nameM_ap, cstM_ap, pur_ap, keep_rep, keep_new, keep_bor, see_rep, see_new, see_bor, seqM_ap, asgM_ap, dispM_ap, muM_ap, tgM_ap, subM_ap, retM_rep, retM_new, retM_bor, chainM_ap, repM_ap, rmM_ap, isTy, callM_ap, callIO_ap, agM_f, agM_t, insR, hasSl, lenScrM_ap, ixScrM_ap, setAll, outs, endM, fnM_ap, gAdd, DL.gSub, gI, gCI, gMul, gMod, gDiv, gPow, gLen, gInt, gAbs, gNeg, gIs, gEq, gIx, isNone, boolOf, gTruth, gAppend, gPop, gPopAt, gReverse, gExtend, gListOf, gTupOf, seqOf_list, seqOf_tup, rng1, rng2, gRgL, gRgL2, eqD_int, List.getElem?_cons_zero, List.getElem?_cons_succ, List.set_cons_zero, List.set_cons_succ, List.length_cons, List.length_nil, List.nil_append, List.cons_append, List.append_nil, List.replicate_zero, List.replicate_succ, List.replicate_one, if_true, if_false, Bool.false_eq_true, reduceIte, Nat.reduceAdd, Nat.reduceSub, List.contains_cons, List.contains_nil, Bool.or_false, Nat.reduceBEq, Bool.false_or, Bool.true_or, Bool.or_true, Bool.and_true, Bool.true_and, Bool.not_true, Bool.not_false, decide_true, decide_false, φ__law_over, t__law_over, at0, at1, mulc 1 (q : Int) (by decide), mulc 1 (r : Int) (by decide), Int.one_mul, f2]
  simp -implicitDefEqProofs only [bnd_ap, opM_ap, oneM_ap, boolM_ap, truM_ap, seeM_ap, lft_ap, nameM_ap, cstM_ap, pur_ap, keep_rep, keep_new, keep_bor, see_rep, see_new, see_bor, seqM_ap, asgM_ap, dispM_ap, muM_ap, tgM_ap, subM_ap, retM_rep, retM_new, retM_bor, chainM_ap, repM_ap, rmM_ap, isTy, callM_ap, callIO_ap, agM_f, agM_t, insR, hasSl, lenScrM_ap, ixScrM_ap, setAll, outs, endM, fnM_ap, gAdd, DL.gSub, gI, gCI, gMul, gMod, gDiv, gPow, gLen, gInt, gAbs, gNeg, gIs, gEq, gIx, isNone, boolOf, gTruth, gAppend, gPop, gPopAt, gReverse, gExtend, gListOf, gTupOf, seqOf_list, seqOf_tup, rng1, rng2, gRgL, gRgL2, eqD_int, List.getElem?_cons_zero, List.getElem?_cons_succ, List.set_cons_zero, List.set_cons_succ, List.length_cons, List.length_nil, List.nil_append, List.cons_append, List.append_nil, List.replicate_zero, List.replicate_succ, List.replicate_one, if_true, if_false, Bool.false_eq_true, reduceIte, Nat.reduceAdd, Nat.reduceSub, List.contains_cons, List.contains_nil, Bool.or_false, Nat.reduceBEq, Bool.false_or, Bool.true_or, Bool.or_true, Bool.and_true, Bool.true_and, Bool.not_true, Bool.not_false, decide_true, decide_false, φ__law_behind, t__law_behind, at0, at1, ed, divc (q : Int) (by omega) (by omega), d2, mulc 2 ((p / q : Nat) : Int) (by decide), hm, ho]
theorem fr_ok (n : Nat) (hn : n < 1000000) : φ_fraction_at [.fr (.int n)] = some (.rep (.tuple [.int (cnt n), .int (cnt (n + 1))]), [.un]) := by
  have p1 := pc_ok n (by omega)
  have p2 := pc_ok (n + 1) (by omega)
  simp -implicitDefEqProofs only [bnd_ap, opM_ap, oneM_ap, boolM_ap, truM_ap, seeM_ap, lft_ap, nameM_ap, cstM_ap, pur_ap, keep_rep, keep_new, keep_bor, see_rep, see_new, see_bor, seqM_ap, asgM_ap, dispM_ap, muM_ap, tgM_ap, subM_ap, retM_rep, retM_new, retM_bor, chainM_ap, repM_ap, rmM_ap, isTy, callM_ap, callIO_ap, agM_f, agM_t, insR, hasSl, lenScrM_ap, ixScrM_ap, setAll, outs, endM, fnM_ap, gAdd, DL.gSub, gI, gCI, gMul, gMod, gDiv, gPow, gLen, gInt, gAbs, gNeg, gIs, gEq, gIx, isNone, boolOf, gTruth, gAppend, gPop, gPopAt, gReverse, gExtend, gListOf, gTupOf, seqOf_list, seqOf_tup, rng1, rng2, gRgL, gRgL2, eqD_int, List.getElem?_cons_zero, List.getElem?_cons_succ, List.set_cons_zero, List.set_cons_succ, List.length_cons, List.length_nil, List.nil_append, List.cons_append, List.append_nil, List.replicate_zero, List.replicate_succ, List.replicate_one, if_true, if_false, Bool.false_eq_true, reduceIte, Nat.reduceAdd, Nat.reduceSub, List.contains_cons, List.contains_nil, Bool.or_false, Nat.reduceBEq, Bool.false_or, Bool.true_or, Bool.or_true, Bool.and_true, Bool.true_and, Bool.not_true, Bool.not_false, decide_true, decide_false, φ_fraction_at, t_fraction_at, p1, show ((n : Int) + 1) = ((n + 1 : Nat) : Int) by omega, p2, d2]
theorem fb_ok (p q r : Nat) (hq : 0 < q) (hr : r + p = (2 * (p / q) + 1) * q) (b1 : p < 1073741824) (b2 : q < 1073741824) : φ_fraction_behind [.fr (.tuple [.int p, .int q])] = some (.rep (.tuple [.int q, .int r]), [.un]) := by
  have ed : ((p : Int)).fdiv (q : Int) = ((p / q : Nat) : Int) := by rw [Int.fdiv_eq_ediv_of_nonneg _ (by omega)]; rfl
  have eb : (2 * ((p / q : Nat) : Int) + 1) * (q : Int) = ((r + p : Nat) : Int) := by
    rw [hr, Int.natCast_mul, Int.natCast_add, Int.natCast_mul]; rfl
  have hw : (2 * ((p / q : Nat) : Int) + 1).natAbs < 18446744073709551616 := by
    have : p / q ≤ p := Nat.div_le_self _ _
    generalize p / q = w at this ⊢
    omega
  simp -implicitDefEqProofs only [bnd_ap, opM_ap, oneM_ap, boolM_ap, truM_ap, seeM_ap, lft_ap, nameM_ap, cstM_ap, pur_ap, keep_rep, keep_new, keep_bor, see_rep, see_new, see_bor, seqM_ap, asgM_ap, dispM_ap, muM_ap, tgM_ap, subM_ap, retM_rep, retM_new, retM_bor, chainM_ap, repM_ap, rmM_ap, isTy, callM_ap, callIO_ap, agM_f, agM_t, insR, hasSl, lenScrM_ap, ixScrM_ap, setAll, outs, endM, fnM_ap, gAdd, DL.gSub, gI, gCI, gMul, gMod, gDiv, gPow, gLen, gInt, gAbs, gNeg, gIs, gEq, gIx, isNone, boolOf, gTruth, gAppend, gPop, gPopAt, gReverse, gExtend, gListOf, gTupOf, seqOf_list, seqOf_tup, rng1, rng2, gRgL, gRgL2, eqD_int, List.getElem?_cons_zero, List.getElem?_cons_succ, List.set_cons_zero, List.set_cons_succ, List.length_cons, List.length_nil, List.nil_append, List.cons_append, List.append_nil, List.replicate_zero, List.replicate_succ, List.replicate_one, if_true, if_false, Bool.false_eq_true, reduceIte, Nat.reduceAdd, Nat.reduceSub, List.contains_cons, List.contains_nil, Bool.or_false, Nat.reduceBEq, Bool.false_or, Bool.true_or, Bool.or_true, Bool.and_true, Bool.true_and, Bool.not_true, Bool.not_false, decide_true, decide_false, φ_fraction_behind, t_fraction_behind, unpM, tgTup, tgCons, tgNil, ed, divc (q : Int) (by omega) (by omega), d2, mulc 2 ((p / q : Nat) : Int) (by decide), mulc _ (q : Int) hw, eb, show (((r + p : Nat) : Int) - (p : Int)) = (r : Int) from by omega]
def chkA (a : Nat) : Bool := match gSorted (dt (prs 9 a 1)) with
  | some (.new (.list s)) => isNew (.list s) 1 (φ_pair_payments [.fr (.int a)]) && isRep (.int s.length) 1 (φ_pair_count [.fr (.int a)]) && okPs s && decide (s.length < 1000) && decide (PyData.depthAll s ≤ 2)
  | _ => false
theorem chkA_all : allN 61 chkA = true := by decide +kernel
theorem chkA_ok {a : Nat} (ha : a < 61) : ∃ s : List D, gSorted (dt (prs 9 a 1)) = some (.new (.list s)) ∧ φ_pair_payments [.fr (.int a)] = some (.new (.list s), [.un]) ∧ cnt a = s.length ∧ okPs s = true ∧ s.length < 1000 ∧ PyData.depthAll s ≤ 2 := by
  have h := allN_ok chkA_all ha
  unfold chkA at h
  split at h
  · rename_i s e
    simp only [Bool.and_eq_true, decide_eq_true_eq] at h
    refine ⟨s, e, isNew_eq h.1.1.1.1, ?_, h.1.1.2, h.1.2, h.2⟩
    have h1 := isRep_eq h.1.1.1.2
    rw [pc_ok a (by omega)] at h1
    injection h1 with h1
    injection h1 with h1 _
    injection h1 with h1
    injection h1 with h1
    omega
  · cases h
def chkB (k : Nat) : Bool := match φ__law_frac [.fr (.int (1 + ((k / 8 : Nat) : Int))), .fr (.int (1 + ((k % 8 : Nat) : Int)))] with
  | some (.rep d, [.un, .un]) => d.plain && decide (d.depth ≤ 60) && (match φ_place_of [.fr d] with
    | some (.rep (.int at'), [.un]) => decide (0 ≤ at') && (decide (1000000 ≤ at') || isRep d 1 (φ_fraction_at [.fr (.int at')]))
    | _ => false)
  | _ => false
theorem chkB_all : allN 64 chkB = true := by decide +kernel
theorem chkB_ok {p q : Nat} (hp : p < 8) (hq : q < 8) : ∃ (d : D) (at' : Int), φ__law_frac [.fr (.int (1 + (p : Int))), .fr (.int (1 + (q : Int)))] = some (.rep d, [.un, .un]) ∧ φ_place_of [.fr d] = some (.rep (.int at'), [.un]) ∧ 0 ≤ at' ∧ (1000000 ≤ at' ∨ φ_fraction_at [.fr (.int at')] = some (.rep d, [.un])) ∧ eqD d d = some true := by
  have h := allN_ok chkB_all (i := 8 * p + q) (by omega)
  unfold chkB at h
  rw [show (8 * p + q) / 8 = p by omega, show (8 * p + q) % 8 = q by omega] at h
  split at h
  · rename_i d e
    simp only [Bool.and_eq_true, decide_eq_true_eq] at h
    obtain ⟨⟨h1, h2⟩, h3⟩ := h
    split at h3
    · rename_i at' e2
      simp only [Bool.and_eq_true, Bool.or_eq_true, decide_eq_true_eq] at h3
      exact ⟨d, at', e, e2, h3.1, h3.2.imp id isRep_eq, eqD_refl d h1 h2⟩
    · cases h3
  · cases h
theorem p10a : (decide ((0 : Int) ≤ 6) && decide ((6 : Int) ≤ 1000000) && decide ((10 : Int).natAbs < 18446744073709551616)) = true := by decide
theorem p10b : ((10 : Int) ^ (6 : Int).toNat) = 1000000 := by decide
theorem mapTup (l : List (List Int)) (ρ : En) (h : ρ[5]? = some .un) (hl : ∀ (x : Sl), (ρ.set 5 x)[5]? = some x) (hs : ∀ x : Sl, (ρ.set 5 x).set 5 .un = ρ) : lcL [5] (tgM 5) (pur true) (oneM gTupOf (nameM 5)) (l.map fun r => PyData.list (r.map PyData.int)) ρ = some (l.map fun r => PyData.tuple (r.map PyData.int), ρ) := by
  rw [lcL_map (fun d => match d with | .list l => .tuple l | d => d)]
  · rw [List.map_map]; rfl
  · intro d hd
    obtain ⟨r, hr, rfl⟩ := List.mem_map.mp hd
    simp -implicitDefEqProofs only [bnd_ap, opM_ap, oneM_ap, boolM_ap, truM_ap, seeM_ap, lft_ap, nameM_ap, cstM_ap, pur_ap, keep_rep, keep_new, keep_bor, see_rep, see_new, see_bor, seqM_ap, asgM_ap, dispM_ap, muM_ap, tgM_ap, subM_ap, retM_rep, retM_new, retM_bor, chainM_ap, repM_ap, rmM_ap, isTy, callM_ap, callIO_ap, agM_f, agM_t, insR, hasSl, lenScrM_ap, ixScrM_ap, setAll, outs, endM, fnM_ap, gAdd, DL.gSub, gI, gCI, gMul, gMod, gDiv, gPow, gLen, gInt, gAbs, gNeg, gIs, gEq, gIx, isNone, boolOf, gTruth, gAppend, gPop, gPopAt, gReverse, gExtend, gListOf, gTupOf, seqOf_list, seqOf_tup, rng1, rng2, gRgL, gRgL2, eqD_int, List.getElem?_cons_zero, List.getElem?_cons_succ, List.set_cons_zero, List.set_cons_succ, List.length_cons, List.length_nil, List.nil_append, List.cons_append, List.append_nil, List.replicate_zero, List.replicate_succ, List.replicate_one, if_true, if_false, Bool.false_eq_true, reduceIte, Nat.reduceAdd, Nat.reduceSub, List.contains_cons, List.contains_nil, Bool.or_false, Nat.reduceBEq, Bool.false_or, Bool.true_or, Bool.or_true, Bool.and_true, Bool.true_and, Bool.not_true, Bool.not_false, decide_true, decide_false, lcT, wipeE, h, hl, hs]
theorem plain (ns : List Int) (h : ns.length ≤ 63) : ∃ o, φ_law [.scr ns] = some (.rep (.bool true), o) := by
  have main : Wp (t_law [.scr ns, .un, .un, .un, .un, .un, .un, .un, .un, .un, .un, .un]) fun c ρ => c = .rt (.rep (.bool true)) := by
    unfold t_law
    obtain ⟨L0, e0⟩ := deck_ok ns 40 14 (by decide) (by decide) (by decide)
    have e0 : φ_deck [.scr ns, .fr (.int 40), .fr (.int 14)] = some (.new (ilist L0), [.un, .un, .un]) := e0
    refine Wp_st (ρ1 := [.scr ns, .own (ilist L0), .un, .un, .un, .un, .un, .un, .un, .un, .un, .un]) (by simp -implicitDefEqProofs only [bnd_ap, opM_ap, oneM_ap, boolM_ap, truM_ap, seeM_ap, lft_ap, nameM_ap, cstM_ap, pur_ap, keep_rep, keep_new, keep_bor, see_rep, see_new, see_bor, seqM_ap, asgM_ap, dispM_ap, muM_ap, tgM_ap, subM_ap, retM_rep, retM_new, retM_bor, chainM_ap, repM_ap, rmM_ap, isTy, callM_ap, callIO_ap, agM_f, agM_t, insR, hasSl, lenScrM_ap, ixScrM_ap, setAll, outs, endM, fnM_ap, gAdd, DL.gSub, gI, gCI, gMul, gMod, gDiv, gPow, gLen, gInt, gAbs, gNeg, gIs, gEq, gIx, isNone, boolOf, gTruth, gAppend, gPop, gPopAt, gReverse, gExtend, gListOf, gTupOf, seqOf_list, seqOf_tup, rng1, rng2, gRgL, gRgL2, eqD_int, List.getElem?_cons_zero, List.getElem?_cons_succ, List.set_cons_zero, List.set_cons_succ, List.length_cons, List.length_nil, List.nil_append, List.cons_append, List.append_nil, List.replicate_zero, List.replicate_succ, List.replicate_one, if_true, if_false, Bool.false_eq_true, reduceIte, Nat.reduceAdd, Nat.reduceSub, List.contains_cons, List.contains_nil, Bool.or_false, Nat.reduceBEq, Bool.false_or, Bool.true_or, Bool.or_true, Bool.and_true, Bool.true_and, Bool.not_true, Bool.not_false, decide_true, decide_false, deck_eq, e0]) ?_
    refine Wp_sts (fun ρ => ∃ (L : List Int) (s2 s3 s4 s6 s7 s8 s9 s10 s11 : Sl), ρ = [.scr ns, .own (ilist L), s2, s3, s4, .un, s6, s7, s8, s9, s10, s11]) ?_ ?_
    · refine Wp_bndE (a := rangeFrom 0 3) (ρ1 := [.scr ns, .own (ilist L0), .un, .un, .un, .un, .un, .un, .un, .un, .un, .un]) (by rfl) ?_
      refine Wp_rng (fun j ρ => ∃ (L : List Int) (s2 s3 s4 s6 s7 s8 s9 s10 s11 : Sl), ρ = [.scr ns, .own (ilist L), s2, s3, s4, .un, s6, s7, s8, s9, s10, s11]) ⟨_, _, _, _, _, _, _, _, _, _, rfl⟩ ?_ ?_
      · rintro j ρ hj ⟨L, s2, s3, s4, s6, s7, s8, s9, s10, s11, rfl⟩
        refine Wp.of (a := ()) (ρ := [.scr ns, .own (ilist L), .fr (.int (0 + j)), s3, s4, .un, s6, s7, s8, s9, s10, s11]) rfl ?_
        generalize (Sl.fr (PyData.int (0 + (j : Int)))) = s2
        -- amount
        obtain ⟨r, L1, r0, r1, e1⟩ := take_ok L 61 (by decide)
        obtain ⟨a, rfl⟩ : ∃ a : Nat, r = a := ⟨r.toNat, by omega⟩
        refine Wp_st (ρ1 := [.scr ns, .own (ilist L1), s2, .fr (.int a), s4, .un, s6, s7, s8, s9, s10, s11]) (by simp -implicitDefEqProofs only [bnd_ap, opM_ap, oneM_ap, boolM_ap, truM_ap, seeM_ap, lft_ap, nameM_ap, cstM_ap, pur_ap, keep_rep, keep_new, keep_bor, see_rep, see_new, see_bor, seqM_ap, asgM_ap, dispM_ap, muM_ap, tgM_ap, subM_ap, retM_rep, retM_new, retM_bor, chainM_ap, repM_ap, rmM_ap, isTy, callM_ap, callIO_ap, agM_f, agM_t, insR, hasSl, lenScrM_ap, ixScrM_ap, setAll, outs, endM, fnM_ap, gAdd, DL.gSub, gI, gCI, gMul, gMod, gDiv, gPow, gLen, gInt, gAbs, gNeg, gIs, gEq, gIx, isNone, boolOf, gTruth, gAppend, gPop, gPopAt, gReverse, gExtend, gListOf, gTupOf, seqOf_list, seqOf_tup, rng1, rng2, gRgL, gRgL2, eqD_int, List.getElem?_cons_zero, List.getElem?_cons_succ, List.set_cons_zero, List.set_cons_succ, List.length_cons, List.length_nil, List.nil_append, List.cons_append, List.append_nil, List.replicate_zero, List.replicate_succ, List.replicate_one, if_true, if_false, Bool.false_eq_true, reduceIte, Nat.reduceAdd, Nat.reduceSub, List.contains_cons, List.contains_nil, Bool.or_false, Nat.reduceBEq, Bool.false_or, Bool.true_or, Bool.or_true, Bool.and_true, Bool.true_and, Bool.not_true, Bool.not_false, decide_true, decide_false, take_eq, e1]) ?_
        obtain ⟨s, c1, c2, c3, c4, c5, c6⟩ := chkA_ok (a := a) (by omega)
        have pa : φ__law_pairs 9 [.fr (.int a), .fr (.int 1)] = some (.new (dl (prs 9 a 1)), [.un, .un]) := prs_ok 8 a 1 (by omega) (by omega) (by omega)
        have pl := prs_len 9 a 1
        have hm := mapTup (prs 9 a 1) [.scr ns, .own (ilist L1), s2, .fr (.int a), s4, .un, s6, s7, s8, s9, s10, s11] rfl (fun _ => rfl) fun _ => rfl
        refine Wp_st (ρ1 := [.scr ns, .own (ilist L1), s2, .fr (.int a), .own (.list s), .un, s6, s7, s8, s9, s10, s11]) (by simp -implicitDefEqProofs only [bnd_ap, opM_ap, oneM_ap, boolM_ap, truM_ap, seeM_ap, lft_ap, nameM_ap, cstM_ap, pur_ap, keep_rep, keep_new, keep_bor, see_rep, see_new, see_bor, seqM_ap, asgM_ap, dispM_ap, muM_ap, tgM_ap, subM_ap, retM_rep, retM_new, retM_bor, chainM_ap, repM_ap, rmM_ap, isTy, callM_ap, callIO_ap, agM_f, agM_t, insR, hasSl, lenScrM_ap, ixScrM_ap, setAll, outs, endM, fnM_ap, gAdd, DL.gSub, gI, gCI, gMul, gMod, gDiv, gPow, gLen, gInt, gAbs, gNeg, gIs, gEq, gIx, isNone, boolOf, gTruth, gAppend, gPop, gPopAt, gReverse, gExtend, gListOf, gTupOf, seqOf_list, seqOf_tup, rng1, rng2, gRgL, gRgL2, eqD_int, List.getElem?_cons_zero, List.getElem?_cons_succ, List.set_cons_zero, List.set_cons_succ, List.length_cons, List.length_nil, List.nil_append, List.cons_append, List.append_nil, List.replicate_zero, List.replicate_succ, List.replicate_one, if_true, if_false, Bool.false_eq_true, reduceIte, Nat.reduceAdd, Nat.reduceSub, List.contains_cons, List.contains_nil, Bool.or_false, Nat.reduceBEq, Bool.false_or, Bool.true_or, Bool.or_true, Bool.and_true, Bool.true_and, Bool.not_true, Bool.not_false, decide_true, decide_false, lcM, wipeE, pa, show ((1 : Nat) : Int) = 1 from rfl, show (((prs 9 a 1).map fun r => PyData.list (r.map PyData.int)).length ≤ 16777216) = True from by rw [List.length_map]; simp; omega, hm, mend, c1]) ?_
        have pcA := pc_ok a (by omega)
        have lcA := lc_ok 23 a (by omega)
        rw [c3] at pcA lcA
        have sm := same_ok (.list [.list s, .int (s.length : Int)]) (by simp only [okP, okPs, c4, Bool.and_true, List.length_cons, List.length_nil]; simp; omega) (by simp only [PyData.depth, PyData.depthAll]; omega)
        refine Wp_st (ρ1 := [.scr ns, .own (ilist L1), s2, .fr (.int a), .fr (.list s), .un, s6, s7, s8, s9, s10, s11]) (by simp -implicitDefEqProofs only [bnd_ap, opM_ap, oneM_ap, boolM_ap, truM_ap, seeM_ap, lft_ap, nameM_ap, cstM_ap, pur_ap, keep_rep, keep_new, keep_bor, see_rep, see_new, see_bor, seqM_ap, asgM_ap, dispM_ap, muM_ap, tgM_ap, subM_ap, retM_rep, retM_new, retM_bor, chainM_ap, repM_ap, rmM_ap, isTy, callM_ap, callIO_ap, agM_f, agM_t, insR, hasSl, lenScrM_ap, ixScrM_ap, setAll, outs, endM, fnM_ap, gAdd, DL.gSub, gI, gCI, gMul, gMod, gDiv, gPow, gLen, gInt, gAbs, gNeg, gIs, gEq, gIx, isNone, boolOf, gTruth, gAppend, gPop, gPopAt, gReverse, gExtend, gListOf, gTupOf, seqOf_list, seqOf_tup, rng1, rng2, gRgL, gRgL2, eqD_int, List.getElem?_cons_zero, List.getElem?_cons_succ, List.set_cons_zero, List.set_cons_succ, List.length_cons, List.length_nil, List.nil_append, List.cons_append, List.append_nil, List.replicate_zero, List.replicate_succ, List.replicate_one, if_true, if_false, Bool.false_eq_true, reduceIte, Nat.reduceAdd, Nat.reduceSub, List.contains_cons, List.contains_nil, Bool.or_false, Nat.reduceBEq, Bool.false_or, Bool.true_or, Bool.or_true, Bool.and_true, Bool.true_and, Bool.not_true, Bool.not_false, decide_true, decide_false, c2, pcA, lcA, same_eq, sm, d2, decide_true]) ?_
        -- great
        obtain ⟨rg, L2, g0, g1, e2⟩ := take_ok L1 1000000 (by decide)
        obtain ⟨g, rfl⟩ : ∃ g : Nat, rg = g := ⟨rg.toNat, by omega⟩
        refine Wp_st (ρ1 := [.scr ns, .own (ilist L2), s2, .fr (.int a), .fr (.list s), .un, .fr (.int g), s7, s8, s9, s10, s11]) (by simp -implicitDefEqProofs only [bnd_ap, opM_ap, oneM_ap, boolM_ap, truM_ap, seeM_ap, lft_ap, nameM_ap, cstM_ap, pur_ap, keep_rep, keep_new, keep_bor, see_rep, see_new, see_bor, seqM_ap, asgM_ap, dispM_ap, muM_ap, tgM_ap, subM_ap, retM_rep, retM_new, retM_bor, chainM_ap, repM_ap, rmM_ap, isTy, callM_ap, callIO_ap, agM_f, agM_t, insR, hasSl, lenScrM_ap, ixScrM_ap, setAll, outs, endM, fnM_ap, gAdd, DL.gSub, gI, gCI, gMul, gMod, gDiv, gPow, gLen, gInt, gAbs, gNeg, gIs, gEq, gIx, isNone, boolOf, gTruth, gAppend, gPop, gPopAt, gReverse, gExtend, gListOf, gTupOf, seqOf_list, seqOf_tup, rng1, rng2, gRgL, gRgL2, eqD_int, List.getElem?_cons_zero, List.getElem?_cons_succ, List.set_cons_zero, List.set_cons_succ, List.length_cons, List.length_nil, List.nil_append, List.cons_append, List.append_nil, List.replicate_zero, List.replicate_succ, List.replicate_one, if_true, if_false, Bool.false_eq_true, reduceIte, Nat.reduceAdd, Nat.reduceSub, List.contains_cons, List.contains_nil, Bool.or_false, Nat.reduceBEq, Bool.false_or, Bool.true_or, Bool.or_true, Bool.and_true, Bool.true_and, Bool.not_true, Bool.not_false, decide_true, decide_false, p10a, p10b, take_eq, e2]) ?_
        have pcG := pc_ok g (by omega)
        have lcG := lc_ok 23 g (by omega)
        refine Wp_st (ρ1 := [.scr ns, .own (ilist L2), s2, .fr (.int a), .fr (.list s), .un, .fr (.int g), s7, s8, s9, s10, s11]) (by simp -implicitDefEqProofs only [bnd_ap, opM_ap, oneM_ap, boolM_ap, truM_ap, seeM_ap, lft_ap, nameM_ap, cstM_ap, pur_ap, keep_rep, keep_new, keep_bor, see_rep, see_new, see_bor, seqM_ap, asgM_ap, dispM_ap, muM_ap, tgM_ap, subM_ap, retM_rep, retM_new, retM_bor, chainM_ap, repM_ap, rmM_ap, isTy, callM_ap, callIO_ap, agM_f, agM_t, insR, hasSl, lenScrM_ap, ixScrM_ap, setAll, outs, endM, fnM_ap, gAdd, DL.gSub, gI, gCI, gMul, gMod, gDiv, gPow, gLen, gInt, gAbs, gNeg, gIs, gEq, gIx, isNone, boolOf, gTruth, gAppend, gPop, gPopAt, gReverse, gExtend, gListOf, gTupOf, seqOf_list, seqOf_tup, rng1, rng2, gRgL, gRgL2, eqD_int, List.getElem?_cons_zero, List.getElem?_cons_succ, List.set_cons_zero, List.set_cons_succ, List.length_cons, List.length_nil, List.nil_append, List.cons_append, List.append_nil, List.replicate_zero, List.replicate_succ, List.replicate_one, if_true, if_false, Bool.false_eq_true, reduceIte, Nat.reduceAdd, Nat.reduceSub, List.contains_cons, List.contains_nil, Bool.or_false, Nat.reduceBEq, Bool.false_or, Bool.true_or, Bool.or_true, Bool.and_true, Bool.true_and, Bool.not_true, Bool.not_false, decide_true, decide_false, pcG, lcG, decide_true]) ?_
        -- n
        obtain ⟨rn, L3, n0, n1, e3⟩ := take_ok L2 5000 (by decide)
        obtain ⟨n, rfl⟩ : ∃ n : Nat, rn = n := ⟨rn.toNat, by omega⟩
        refine Wp_st (ρ1 := [.scr ns, .own (ilist L3), s2, .fr (.int a), .fr (.list s), .un, .fr (.int g), .fr (.int n), s8, s9, s10, s11]) (by simp -implicitDefEqProofs only [bnd_ap, opM_ap, oneM_ap, boolM_ap, truM_ap, seeM_ap, lft_ap, nameM_ap, cstM_ap, pur_ap, keep_rep, keep_new, keep_bor, see_rep, see_new, see_bor, seqM_ap, asgM_ap, dispM_ap, muM_ap, tgM_ap, subM_ap, retM_rep, retM_new, retM_bor, chainM_ap, repM_ap, rmM_ap, isTy, callM_ap, callIO_ap, agM_f, agM_t, insR, hasSl, lenScrM_ap, ixScrM_ap, setAll, outs, endM, fnM_ap, gAdd, DL.gSub, gI, gCI, gMul, gMod, gDiv, gPow, gLen, gInt, gAbs, gNeg, gIs, gEq, gIx, isNone, boolOf, gTruth, gAppend, gPop, gPopAt, gReverse, gExtend, gListOf, gTupOf, seqOf_list, seqOf_tup, rng1, rng2, gRgL, gRgL2, eqD_int, List.getElem?_cons_zero, List.getElem?_cons_succ, List.set_cons_zero, List.set_cons_succ, List.length_cons, List.length_nil, List.nil_append, List.cons_append, List.append_nil, List.replicate_zero, List.replicate_succ, List.replicate_one, if_true, if_false, Bool.false_eq_true, reduceIte, Nat.reduceAdd, Nat.reduceSub, List.contains_cons, List.contains_nil, Bool.or_false, Nat.reduceBEq, Bool.false_or, Bool.true_or, Bool.or_true, Bool.and_true, Bool.true_and, Bool.not_true, Bool.not_false, decide_true, decide_false, take_eq, e3]) ?_
        have fN := fr_ok n (by omega)
        have fN1 := fr_ok (n + 1) (by omega)
        refine Wp_st (ρ1 := [.scr ns, .own (ilist L3), s2, .fr (.int a), .fr (.list s), .un, .fr (.int g), .fr (.int n), .fr (.tuple [.int (cnt n), .int (cnt (n + 1))]), s9, s10, s11]) (by simp -implicitDefEqProofs only [bnd_ap, opM_ap, oneM_ap, boolM_ap, truM_ap, seeM_ap, lft_ap, nameM_ap, cstM_ap, pur_ap, keep_rep, keep_new, keep_bor, see_rep, see_new, see_bor, seqM_ap, asgM_ap, dispM_ap, muM_ap, tgM_ap, subM_ap, retM_rep, retM_new, retM_bor, chainM_ap, repM_ap, rmM_ap, isTy, callM_ap, callIO_ap, agM_f, agM_t, insR, hasSl, lenScrM_ap, ixScrM_ap, setAll, outs, endM, fnM_ap, gAdd, DL.gSub, gI, gCI, gMul, gMod, gDiv, gPow, gLen, gInt, gAbs, gNeg, gIs, gEq, gIx, isNone, boolOf, gTruth, gAppend, gPop, gPopAt, gReverse, gExtend, gListOf, gTupOf, seqOf_list, seqOf_tup, rng1, rng2, gRgL, gRgL2, eqD_int, List.getElem?_cons_zero, List.getElem?_cons_succ, List.set_cons_zero, List.set_cons_succ, List.length_cons, List.length_nil, List.nil_append, List.cons_append, List.append_nil, List.replicate_zero, List.replicate_succ, List.replicate_one, if_true, if_false, Bool.false_eq_true, reduceIte, Nat.reduceAdd, Nat.reduceSub, List.contains_cons, List.contains_nil, Bool.or_false, Nat.reduceBEq, Bool.false_or, Bool.true_or, Bool.or_true, Bool.and_true, Bool.true_and, Bool.not_true, Bool.not_false, decide_true, decide_false, fN]) ?_
        have pcN := pc_ok n (by omega)
        have pcN1 := pc_ok (n + 1) (by omega)
        have l0 := cnt_le n
        have l1 := cnt_le (n + 1)
        have l2 := cnt_le (n + 2)
        have gN := gcd_ok (cnt n) (cnt (n + 1)) (by
          have h1 : cnt n * cnt (n + 1) ≤ 1000000 * 1000000 := Nat.mul_le_mul (by omega) (by omega)
          have h2 : (1000000 : Nat) * 1000000 < 2 ^ 60 := by decide
          exact Nat.lt_of_lt_of_le (Nat.lt_of_le_of_lt h1 h2) (Nat.pow_le_pow_right (by decide) (by decide))) (by omega) (by omega)
        rw [cnt_co] at gN
        have cc : ((n : Int) + 1) = ((n + 1 : Nat) : Int) := by omega
        refine Wp_st (ρ1 := [.scr ns, .own (ilist L3), s2, .fr (.int a), .fr (.list s), .un, .fr (.int g), .fr (.int n), .fr (.tuple [.int (cnt n), .int (cnt (n + 1))]), s9, s10, s11]) (by simp -implicitDefEqProofs only [bnd_ap, opM_ap, oneM_ap, boolM_ap, truM_ap, seeM_ap, lft_ap, nameM_ap, cstM_ap, pur_ap, keep_rep, keep_new, keep_bor, see_rep, see_new, see_bor, seqM_ap, asgM_ap, dispM_ap, muM_ap, tgM_ap, subM_ap, retM_rep, retM_new, retM_bor, chainM_ap, repM_ap, rmM_ap, isTy, callM_ap, callIO_ap, agM_f, agM_t, insR, hasSl, lenScrM_ap, ixScrM_ap, setAll, outs, endM, fnM_ap, gAdd, DL.gSub, gI, gCI, gMul, gMod, gDiv, gPow, gLen, gInt, gAbs, gNeg, gIs, gEq, gIx, isNone, boolOf, gTruth, gAppend, gPop, gPopAt, gReverse, gExtend, gListOf, gTupOf, seqOf_list, seqOf_tup, rng1, rng2, gRgL, gRgL2, eqD_int, List.getElem?_cons_zero, List.getElem?_cons_succ, List.set_cons_zero, List.set_cons_succ, List.length_cons, List.length_nil, List.nil_append, List.cons_append, List.append_nil, List.replicate_zero, List.replicate_succ, List.replicate_one, if_true, if_false, Bool.false_eq_true, reduceIte, Nat.reduceAdd, Nat.reduceSub, List.contains_cons, List.contains_nil, Bool.or_false, Nat.reduceBEq, Bool.false_or, Bool.true_or, Bool.or_true, Bool.and_true, Bool.true_and, Bool.not_true, Bool.not_false, decide_true, decide_false, cc, pcN, pcN1, d2, eqD_pair, gN, at0, at1, show decide (((1 : Nat) : Int) = 1) = true from rfl]) ?_
        have bh := behind_ok (cnt n) (cnt (n + 1)) (cnt (n + 2)) (cnt_pos _) (by rw [Nat.gcd_comm]; exact cnt_co (n + 1)) (cnt_next n) (by omega) (by omega) (by omega)
        have fb := fb_ok (cnt n) (cnt (n + 1)) (cnt (n + 2)) (cnt_pos _) (cnt_next n) (by omega) (by omega)
        refine Wp_st (ρ1 := [.scr ns, .own (ilist L3), s2, .fr (.int a), .fr (.list s), .un, .fr (.int g), .fr (.int n), .fr (.tuple [.int (cnt n), .int (cnt (n + 1))]), s9, s10, s11]) (by simp -implicitDefEqProofs only [bnd_ap, opM_ap, oneM_ap, boolM_ap, truM_ap, seeM_ap, lft_ap, nameM_ap, cstM_ap, pur_ap, keep_rep, keep_new, keep_bor, see_rep, see_new, see_bor, seqM_ap, asgM_ap, dispM_ap, muM_ap, tgM_ap, subM_ap, retM_rep, retM_new, retM_bor, chainM_ap, repM_ap, rmM_ap, isTy, callM_ap, callIO_ap, agM_f, agM_t, insR, hasSl, lenScrM_ap, ixScrM_ap, setAll, outs, endM, fnM_ap, gAdd, DL.gSub, gI, gCI, gMul, gMod, gDiv, gPow, gLen, gInt, gAbs, gNeg, gIs, gEq, gIx, isNone, boolOf, gTruth, gAppend, gPop, gPopAt, gReverse, gExtend, gListOf, gTupOf, seqOf_list, seqOf_tup, rng1, rng2, gRgL, gRgL2, eqD_int, List.getElem?_cons_zero, List.getElem?_cons_succ, List.set_cons_zero, List.set_cons_succ, List.length_cons, List.length_nil, List.nil_append, List.cons_append, List.append_nil, List.replicate_zero, List.replicate_succ, List.replicate_one, if_true, if_false, Bool.false_eq_true, reduceIte, Nat.reduceAdd, Nat.reduceSub, List.contains_cons, List.contains_nil, Bool.or_false, Nat.reduceBEq, Bool.false_or, Bool.true_or, Bool.or_true, Bool.and_true, Bool.true_and, Bool.not_true, Bool.not_false, decide_true, decide_false, cc, fN1, bh, fb, show n + 1 + 1 = n + 2 from rfl, eqD_pair]) ?_
        -- other
        obtain ⟨rp, L4, p0, p1, e4⟩ := take_ok L3 8 (by decide)
        obtain ⟨p, rfl⟩ : ∃ p : Nat, rp = p := ⟨rp.toNat, by omega⟩
        obtain ⟨rq, L5, q0, q1, e5⟩ := take_ok L4 8 (by decide)
        obtain ⟨q, rfl⟩ : ∃ q : Nat, rq = q := ⟨rq.toNat, by omega⟩
        obtain ⟨d, at', o1, o2, o3, o4, o5⟩ := chkB_ok (p := p) (q := q) (by omega) (by omega)
        refine Wp_st (ρ1 := [.scr ns, .own (ilist L5), s2, .fr (.int a), .fr (.list s), .un, .fr (.int g), .fr (.int n), .fr (.tuple [.int (cnt n), .int (cnt (n + 1))]), .fr d, s10, s11]) (by simp -implicitDefEqProofs only [bnd_ap, opM_ap, oneM_ap, boolM_ap, truM_ap, seeM_ap, lft_ap, nameM_ap, cstM_ap, pur_ap, keep_rep, keep_new, keep_bor, see_rep, see_new, see_bor, seqM_ap, asgM_ap, dispM_ap, muM_ap, tgM_ap, subM_ap, retM_rep, retM_new, retM_bor, chainM_ap, repM_ap, rmM_ap, isTy, callM_ap, callIO_ap, agM_f, agM_t, insR, hasSl, lenScrM_ap, ixScrM_ap, setAll, outs, endM, fnM_ap, gAdd, DL.gSub, gI, gCI, gMul, gMod, gDiv, gPow, gLen, gInt, gAbs, gNeg, gIs, gEq, gIx, isNone, boolOf, gTruth, gAppend, gPop, gPopAt, gReverse, gExtend, gListOf, gTupOf, seqOf_list, seqOf_tup, rng1, rng2, gRgL, gRgL2, eqD_int, List.getElem?_cons_zero, List.getElem?_cons_succ, List.set_cons_zero, List.set_cons_succ, List.length_cons, List.length_nil, List.nil_append, List.cons_append, List.append_nil, List.replicate_zero, List.replicate_succ, List.replicate_one, if_true, if_false, Bool.false_eq_true, reduceIte, Nat.reduceAdd, Nat.reduceSub, List.contains_cons, List.contains_nil, Bool.or_false, Nat.reduceBEq, Bool.false_or, Bool.true_or, Bool.or_true, Bool.and_true, Bool.true_and, Bool.not_true, Bool.not_false, decide_true, decide_false, take_eq, e4, e5, o1]) ?_
        refine Wp_st (ρ1 := [.scr ns, .own (ilist L5), s2, .fr (.int a), .fr (.list s), .un, .fr (.int g), .fr (.int n), .fr (.tuple [.int (cnt n), .int (cnt (n + 1))]), .fr d, .fr (.int at'), s11]) (by simp -implicitDefEqProofs only [bnd_ap, opM_ap, oneM_ap, boolM_ap, truM_ap, seeM_ap, lft_ap, nameM_ap, cstM_ap, pur_ap, keep_rep, keep_new, keep_bor, see_rep, see_new, see_bor, seqM_ap, asgM_ap, dispM_ap, muM_ap, tgM_ap, subM_ap, retM_rep, retM_new, retM_bor, chainM_ap, repM_ap, rmM_ap, isTy, callM_ap, callIO_ap, agM_f, agM_t, insR, hasSl, lenScrM_ap, ixScrM_ap, setAll, outs, endM, fnM_ap, gAdd, DL.gSub, gI, gCI, gMul, gMod, gDiv, gPow, gLen, gInt, gAbs, gNeg, gIs, gEq, gIx, isNone, boolOf, gTruth, gAppend, gPop, gPopAt, gReverse, gExtend, gListOf, gTupOf, seqOf_list, seqOf_tup, rng1, rng2, gRgL, gRgL2, eqD_int, List.getElem?_cons_zero, List.getElem?_cons_succ, List.set_cons_zero, List.set_cons_succ, List.length_cons, List.length_nil, List.nil_append, List.cons_append, List.append_nil, List.replicate_zero, List.replicate_succ, List.replicate_one, if_true, if_false, Bool.false_eq_true, reduceIte, Nat.reduceAdd, Nat.reduceSub, List.contains_cons, List.contains_nil, Bool.or_false, Nat.reduceBEq, Bool.false_or, Bool.true_or, Bool.or_true, Bool.and_true, Bool.true_and, Bool.not_true, Bool.not_false, decide_true, decide_false, o2]) ?_
        refine Wp_st (ρ1 := [.scr ns, .own (ilist L5), s2, .fr (.int a), .fr (.list s), .un, .fr (.int g), .fr (.int n), .fr (.tuple [.int (cnt n), .int (cnt (n + 1))]), .fr d, .fr (.int at'), s11]) (by
          rcases o4 with o4 | o4
          · simp -implicitDefEqProofs only [bnd_ap, opM_ap, oneM_ap, boolM_ap, truM_ap, seeM_ap, lft_ap, nameM_ap, cstM_ap, pur_ap, keep_rep, keep_new, keep_bor, see_rep, see_new, see_bor, seqM_ap, asgM_ap, dispM_ap, muM_ap, tgM_ap, subM_ap, retM_rep, retM_new, retM_bor, chainM_ap, repM_ap, rmM_ap, isTy, callM_ap, callIO_ap, agM_f, agM_t, insR, hasSl, lenScrM_ap, ixScrM_ap, setAll, outs, endM, fnM_ap, gAdd, DL.gSub, gI, gCI, gMul, gMod, gDiv, gPow, gLen, gInt, gAbs, gNeg, gIs, gEq, gIx, isNone, boolOf, gTruth, gAppend, gPop, gPopAt, gReverse, gExtend, gListOf, gTupOf, seqOf_list, seqOf_tup, rng1, rng2, gRgL, gRgL2, eqD_int, List.getElem?_cons_zero, List.getElem?_cons_succ, List.set_cons_zero, List.set_cons_succ, List.length_cons, List.length_nil, List.nil_append, List.cons_append, List.append_nil, List.replicate_zero, List.replicate_succ, List.replicate_one, if_true, if_false, Bool.false_eq_true, reduceIte, Nat.reduceAdd, Nat.reduceSub, List.contains_cons, List.contains_nil, Bool.or_false, Nat.reduceBEq, Bool.false_or, Bool.true_or, Bool.or_true, Bool.and_true, Bool.true_and, Bool.not_true, Bool.not_false, decide_true, decide_false, p10a, p10b, decide_eq_false (show ¬ at' < 0 by omega), decide_eq_false (show ¬ at' < 1000000 by omega)]
          · by_cases o6 : at' < 1000000
            · simp -implicitDefEqProofs only [bnd_ap, opM_ap, oneM_ap, boolM_ap, truM_ap, seeM_ap, lft_ap, nameM_ap, cstM_ap, pur_ap, keep_rep, keep_new, keep_bor, see_rep, see_new, see_bor, seqM_ap, asgM_ap, dispM_ap, muM_ap, tgM_ap, subM_ap, retM_rep, retM_new, retM_bor, chainM_ap, repM_ap, rmM_ap, isTy, callM_ap, callIO_ap, agM_f, agM_t, insR, hasSl, lenScrM_ap, ixScrM_ap, setAll, outs, endM, fnM_ap, gAdd, DL.gSub, gI, gCI, gMul, gMod, gDiv, gPow, gLen, gInt, gAbs, gNeg, gIs, gEq, gIx, isNone, boolOf, gTruth, gAppend, gPop, gPopAt, gReverse, gExtend, gListOf, gTupOf, seqOf_list, seqOf_tup, rng1, rng2, gRgL, gRgL2, eqD_int, List.getElem?_cons_zero, List.getElem?_cons_succ, List.set_cons_zero, List.set_cons_succ, List.length_cons, List.length_nil, List.nil_append, List.cons_append, List.append_nil, List.replicate_zero, List.replicate_succ, List.replicate_one, if_true, if_false, Bool.false_eq_true, reduceIte, Nat.reduceAdd, Nat.reduceSub, List.contains_cons, List.contains_nil, Bool.or_false, Nat.reduceBEq, Bool.false_or, Bool.true_or, Bool.or_true, Bool.and_true, Bool.true_and, Bool.not_true, Bool.not_false, decide_true, decide_false, p10a, p10b, decide_eq_false (show ¬ at' < 0 by omega), decide_eq_true o6, o4, o5]
            · simp -implicitDefEqProofs only [bnd_ap, opM_ap, oneM_ap, boolM_ap, truM_ap, seeM_ap, lft_ap, nameM_ap, cstM_ap, pur_ap, keep_rep, keep_new, keep_bor, see_rep, see_new, see_bor, seqM_ap, asgM_ap, dispM_ap, muM_ap, tgM_ap, subM_ap, retM_rep, retM_new, retM_bor, chainM_ap, repM_ap, rmM_ap, isTy, callM_ap, callIO_ap, agM_f, agM_t, insR, hasSl, lenScrM_ap, ixScrM_ap, setAll, outs, endM, fnM_ap, gAdd, DL.gSub, gI, gCI, gMul, gMod, gDiv, gPow, gLen, gInt, gAbs, gNeg, gIs, gEq, gIx, isNone, boolOf, gTruth, gAppend, gPop, gPopAt, gReverse, gExtend, gListOf, gTupOf, seqOf_list, seqOf_tup, rng1, rng2, gRgL, gRgL2, eqD_int, List.getElem?_cons_zero, List.getElem?_cons_succ, List.set_cons_zero, List.set_cons_succ, List.length_cons, List.length_nil, List.nil_append, List.cons_append, List.append_nil, List.replicate_zero, List.replicate_succ, List.replicate_one, if_true, if_false, Bool.false_eq_true, reduceIte, Nat.reduceAdd, Nat.reduceSub, List.contains_cons, List.contains_nil, Bool.or_false, Nat.reduceBEq, Bool.false_or, Bool.true_or, Bool.or_true, Bool.and_true, Bool.true_and, Bool.not_true, Bool.not_false, decide_true, decide_false, p10a, p10b, decide_eq_false (show ¬ at' < 0 by omega), decide_eq_false o6]) ?_
        -- half
        obtain ⟨rh, L6, h0, h1, e6⟩ := take_ok L5 400 (by decide)
        obtain ⟨hf, hh⟩ : ∃ hf : Nat, 1 + rh = ((hf + 1 : Nat) : Int) := ⟨rh.toNat, by omega⟩
        refine Wp_st (ρ1 := [.scr ns, .own (ilist L6), s2, .fr (.int a), .fr (.list s), .un, .fr (.int g), .fr (.int n), .fr (.tuple [.int (cnt n), .int (cnt (n + 1))]), .fr d, .fr (.int at'), .fr (.int ((hf + 1 : Nat) : Int))]) (by simp -implicitDefEqProofs only [bnd_ap, opM_ap, oneM_ap, boolM_ap, truM_ap, seeM_ap, lft_ap, nameM_ap, cstM_ap, pur_ap, keep_rep, keep_new, keep_bor, see_rep, see_new, see_bor, seqM_ap, asgM_ap, dispM_ap, muM_ap, tgM_ap, subM_ap, retM_rep, retM_new, retM_bor, chainM_ap, repM_ap, rmM_ap, isTy, callM_ap, callIO_ap, agM_f, agM_t, insR, hasSl, lenScrM_ap, ixScrM_ap, setAll, outs, endM, fnM_ap, gAdd, DL.gSub, gI, gCI, gMul, gMod, gDiv, gPow, gLen, gInt, gAbs, gNeg, gIs, gEq, gIx, isNone, boolOf, gTruth, gAppend, gPop, gPopAt, gReverse, gExtend, gListOf, gTupOf, seqOf_list, seqOf_tup, rng1, rng2, gRgL, gRgL2, eqD_int, List.getElem?_cons_zero, List.getElem?_cons_succ, List.set_cons_zero, List.set_cons_succ, List.length_cons, List.length_nil, List.nil_append, List.cons_append, List.append_nil, List.replicate_zero, List.replicate_succ, List.replicate_one, if_true, if_false, Bool.false_eq_true, reduceIte, Nat.reduceAdd, Nat.reduceSub, List.contains_cons, List.contains_nil, Bool.or_false, Nat.reduceBEq, Bool.false_or, Bool.true_or, Bool.or_true, Bool.and_true, Bool.true_and, Bool.not_true, Bool.not_false, decide_true, decide_false, take_eq, e6, hh]) ?_
        have ph0 := pc_ok hf (by omega)
        have ph1 := pc_ok (hf + 1) (by omega)
        have ph2 := pc_ok (2 * hf + 2) (by omega)
        have ph3 := pc_ok (2 * (hf + 1) + 1) (by omega)
        rw [cnt_even] at ph2
        rw [cnt_odd] at ph3
        exact Wp.of (a := .nx) (by simp -implicitDefEqProofs only [bnd_ap, opM_ap, oneM_ap, boolM_ap, truM_ap, seeM_ap, lft_ap, nameM_ap, cstM_ap, pur_ap, keep_rep, keep_new, keep_bor, see_rep, see_new, see_bor, seqM_ap, asgM_ap, dispM_ap, muM_ap, tgM_ap, subM_ap, retM_rep, retM_new, retM_bor, chainM_ap, repM_ap, rmM_ap, isTy, callM_ap, callIO_ap, agM_f, agM_t, insR, hasSl, lenScrM_ap, ixScrM_ap, setAll, outs, endM, fnM_ap, gAdd, DL.gSub, gI, gCI, gMul, gMod, gDiv, gPow, gLen, gInt, gAbs, gNeg, gIs, gEq, gIx, isNone, boolOf, gTruth, gAppend, gPop, gPopAt, gReverse, gExtend, gListOf, gTupOf, seqOf_list, seqOf_tup, rng1, rng2, gRgL, gRgL2, eqD_int, List.getElem?_cons_zero, List.getElem?_cons_succ, List.set_cons_zero, List.set_cons_succ, List.length_cons, List.length_nil, List.nil_append, List.cons_append, List.append_nil, List.replicate_zero, List.replicate_succ, List.replicate_one, if_true, if_false, Bool.false_eq_true, reduceIte, Nat.reduceAdd, Nat.reduceSub, List.contains_cons, List.contains_nil, Bool.or_false, Nat.reduceBEq, Bool.false_or, Bool.true_or, Bool.or_true, Bool.and_true, Bool.true_and, Bool.not_true, Bool.not_false, decide_true, decide_false, mulc 2 ((hf + 1 : Nat) : Int) (by decide), show (2 : Int) * ((hf + 1 : Nat) : Int) = ((2 * hf + 2 : Nat) : Int) by omega, show ((2 * hf + 2 : Nat) : Int) + 1 = ((2 * (hf + 1) + 1 : Nat) : Int) by omega, show ((hf + 1 : Nat) : Int) - 1 = (hf : Int) by omega, ph0, ph1, ph2, ph3, show ((cnt (hf + 1) : Nat) : Int) + ((cnt hf : Nat) : Int) = ((cnt (hf + 1) + cnt hf : Nat) : Int) by omega, decide_true]; rfl) ⟨_, _, _, _, _, _, _, _, _, _, rfl⟩
      · rintro ρ ⟨L, s2, s3, s4, s6, s7, s8, s9, s10, s11, rfl⟩
        exact ⟨rfl, _, _, _, _, _, _, _, _, _, _, rfl⟩
    · rintro ρ ⟨L, s2, s3, s4, s6, s7, s8, s9, s10, s11, rfl⟩
      exact Wp.of (by simp -implicitDefEqProofs only [bnd_ap, opM_ap, oneM_ap, boolM_ap, truM_ap, seeM_ap, lft_ap, nameM_ap, cstM_ap, pur_ap, keep_rep, keep_new, keep_bor, see_rep, see_new, see_bor, seqM_ap, asgM_ap, dispM_ap, muM_ap, tgM_ap, subM_ap, retM_rep, retM_new, retM_bor, chainM_ap, repM_ap, rmM_ap, isTy, callM_ap, callIO_ap, agM_f, agM_t, insR, hasSl, lenScrM_ap, ixScrM_ap, setAll, outs, endM, fnM_ap, gAdd, DL.gSub, gI, gCI, gMul, gMod, gDiv, gPow, gLen, gInt, gAbs, gNeg, gIs, gEq, gIx, isNone, boolOf, gTruth, gAppend, gPop, gPopAt, gReverse, gExtend, gListOf, gTupOf, seqOf_list, seqOf_tup, rng1, rng2, gRgL, gRgL2, eqD_int, List.getElem?_cons_zero, List.getElem?_cons_succ, List.set_cons_zero, List.set_cons_succ, List.length_cons, List.length_nil, List.nil_append, List.cons_append, List.append_nil, List.replicate_zero, List.replicate_succ, List.replicate_one, if_true, if_false, Bool.false_eq_true, reduceIte, Nat.reduceAdd, Nat.reduceSub, List.contains_cons, List.contains_nil, Bool.or_false, Nat.reduceBEq, Bool.false_or, Bool.true_or, Bool.or_true, Bool.and_true, Bool.true_and, Bool.not_true, Bool.not_false, decide_true, decide_false]; rfl) rfl
  obtain ⟨r, o, q, e⟩ := fn_ex (A := _) (n := 12) (body := t_law) (ins := [.scr ns]) (Q := fun r o => r = .rep (.bool true)) (main.mono fun ct ρ e => ⟨.rep (.bool true), [.un], by subst e; rfl, rfl⟩)
  exact ⟨o, by rw [e] at q; exact q⟩
end K44

open PySem PySem.W PyProof.Rows
set_option maxHeartbeats 0 in
theorem PySem.Challenge.cw_coinwell_k44_whole_coins_that_double_holds : PySem.Challenge.rw_coinwell_k44_whole_coins_that_double.Holds := by
  w_on; o_law; k_head; (case hw => w_witness2)
  k_fill
  refine L2.walk_of (l := PySem.Challenge.rw_coinwell_k44_whole_coins_that_double) (n := 63) (k := 25) (x := "script") (CX := fun _ => L2.CX0) (sp := fun w => DL.spD _ 1 K44.φ_law) rfl (by decide) rfl ⟨rfl, by decide, by decide⟩ (fun w h Y => PySem.W.kIn_of Y) ?F (fun _ _ a ns hl _ hS => (K44.plain ns hl).elim fun o e => DL.law_end e hS) (fun _ _ _ _ _ h => h)
  case F =>
    intro w mg fa h KX G hmg
    refine' K44.all_mk KX G hmg ?a0 ?l0 ?c0 ?k0 ?a1 ?l1 ?c1 ?k1 ?a2 ?l2 ?c2 ?k2 ?a3 ?l3 ?c3 ?k3 ?a4 ?l4 ?c4 ?k4 ?a5 ?l5 ?c5 ?k5 ?a6 ?l6 ?c6 ?k6 ?a7 ?l7 ?c7 ?k7 ?a8 ?l8 ?c8 ?k8 ?a9 ?l9 ?c9 ?k9 ?a10 ?l10 ?c10 ?k10 ?a11 ?l11 ?c11 ?k11 ?a12 ?l12 ?c12 ?k12 ?a13 ?l13 ?c13 ?k13 ?a14 ?l14 ?c14 ?k14 ?a15 ?l15 ?c15 ?k15 ?a16 ?l16 ?c16 ?k16 ?a17 ?l17 ?c17 ?k17 ?z_abs ?z_bool ?z_int ?z_isinstance ?z_len ?z_list ?z_range ?z_sorted ?z_str ?z_tuple
    (case a0 => k_is); (case l0 => k_is); (case c0 => k_is); (case k0 => k_is); (case a1 => k_is); (case l1 => k_is); (case c1 => k_is); (case k1 => k_is); (case a2 => k_is); (case l2 => k_is); (case c2 => k_is); (case k2 => k_is); (case a3 => k_is); (case l3 => k_is); (case c3 => k_is); (case k3 => k_is); (case a4 => k_is); (case l4 => k_is); (case c4 => k_is); (case k4 => k_is); (case a5 => k_is); (case l5 => k_is); (case c5 => k_is); (case k5 => k_is); (case a6 => k_is); (case l6 => k_is); (case c6 => k_is); (case k6 => k_is); (case a7 => k_is); (case l7 => k_is); (case c7 => k_is); (case k7 => k_is); (case a8 => k_is); (case l8 => k_is); (case c8 => k_is); (case k8 => k_is); (case a9 => k_is); (case l9 => k_is); (case c9 => k_is); (case k9 => k_is); (case a10 => k_is); (case l10 => k_is); (case c10 => k_is); (case k10 => k_is); (case a11 => k_is); (case l11 => k_is); (case c11 => k_is); (case k11 => k_is); (case a12 => k_is); (case l12 => k_is); (case c12 => k_is); (case k12 => k_is); (case a13 => k_is); (case l13 => k_is); (case c13 => k_is); (case k13 => k_is); (case a14 => k_is); (case l14 => k_is); (case c14 => k_is); (case k14 => k_is); (case a15 => k_is); (case l15 => k_is); (case c15 => k_is); (case k15 => k_is); (case a16 => k_is); (case l16 => k_is); (case c16 => k_is); (case k16 => k_is); (case a17 => k_is); (case l17 => k_is); (case c17 => k_is); (case k17 => k_is); (case z_abs => k_is); (case z_bool => k_is); (case z_int => k_is); (case z_isinstance => k_is); (case z_len => k_is); (case z_list => k_is); (case z_range => k_is); (case z_sorted => k_is); (case z_str => k_is); (case z_tuple => k_is)
