import PyProof.Rows.All
import Wide.All
import OpenK.AllK
import Wide.FinOn
import HandS.ForMost
import HandS.ForExc
import HandS.ExcInit
import HandS.ExcField
import HandS.ExcSuper
import HandS.TryMany
import HandS.CallSlots
import HandS.CallLocal
import HandS.Wide
import HandS.Flow
import HandS.IsInst
import HandS.Codes
import HandS.TupAny
import HandS.TupMul
import HandS.Deep
import HandS.Conv
import HandS.Style
import HandS.ExcOwn
import HandS.Nested
import KE.KExcSuper
import HandS.Ends
import HandS.ExcIs
import PySem.Challenge.RW_huttohut_k10_whole_fractions
set_option Elab.async false
set_option linter.all false
set_option maxRecDepth 100000
/-! PV: values without addresses; slots that own what they may change; combinators over slots, and the rules that tie them to the judgements of the hand layer. -/
namespace PV
open PySem L2

/-- a value by itself: data, an object by its class's number, a def by its number -/
inductive P where
  | non | bl (b : Bool) | int (i : Int) | str (x : Str)
  | tup (xs : List P) | lst (xs : List P)
  | dct (t : Bool) (ks vs : List P)
  | obj (C : Nat) (vs : List P)
  | fn (f : Nat)
  | scr (ns : List Int)
  | ty (n : String) | cls (C : Nat)
  deriving Inhabited

/-- where the numbered classes and defs stand; the fields of a class in the order of their first store -/
structure Ctx where
  K : PySem.W.Frag
  cls : Nat → Addr
  lay : Nat → List Str
  fna : Nat → Addr

def keyP : Key → P
  | .inl i => .int i
  | .inr x => .str x
def tkeyP (k : List Key) : P := .tup (k.map keyP)

/-- H knows what F knows; a dict may be locked -/
def Le (F H : Hp) : Prop := ∀ a u, F a = some u → H a = some u ∨ ((∃ k, u = .dK k ∨ ∃ k, u = .dT k) ∧ ∃ ob, H a = some (.frz ob u))
theorem Le.refl (F : Hp) : Le F F := fun _ _ h => .inl h
theorem Le.trans {F G H : Hp} (a : Le F G) (b : Le G H) : Le F H := fun x u h => by
  rcases a x u h with h | ⟨hd, ob, h⟩
  · exact b x u h
  · rcases b x _ h with h | ⟨⟨k, h | ⟨k, h⟩⟩, _⟩
    · exact .inr ⟨hd, ob, h⟩
    · cases h
    · cases h
theorem Le.rd {F H : Hp} (l : Le F H) {a : Addr} {u : HO} (h : Rd F a u) : Rd H a u := by
  rcases h with h | ⟨o, h⟩
  · rcases l a u h with h | ⟨_, ob, h⟩
    · exact .inl h
    · exact .inr ⟨ob, h⟩
  · rcases l a _ h with h | ⟨⟨k, h | ⟨k, h⟩⟩, _⟩
    · exact .inr ⟨o, h⟩
    · cases h
    · cases h
theorem Le.sqL {K : PySem.W.Frag} {F H : Hp} (l : Le F H) {a : Addr} {xs : List V} (h : SqL K F a xs) : SqL K H a xs := by
  rcases h with h | h
  · exact .inl (l.rd h)
  · exact .inr h
theorem Le.sqT {K : PySem.W.Frag} {F H : Hp} (l : Le F H) {a : Addr} {xs : List V} (h : SqT K F a xs) : SqT K H a xs := by
  rcases h with h | h
  · exact .inl (l.rd h)
  · exact .inr h
theorem Le.ins {F H : Hp} (l : Le F H) {a C dx : Addr} {fs : List (Str × V)} (h : F a = some (.ins C dx fs)) : H a = some (.ins C dx fs) := by
  rcases l a _ h with h | ⟨⟨k, h | ⟨k, h⟩⟩, _⟩
  · exact h
  · cases h
  · cases h
theorem Le.lst {F H : Hp} (l : Le F H) {a : Addr} {xs : List V} (h : F a = some (.lst xs)) : H a = some (.lst xs) := by
  rcases l a _ h with h | ⟨⟨k, h | ⟨k, h⟩⟩, _⟩
  · exact h
  · cases h
  · cases h
theorem Le.xd {F H : Hp} (l : Le F H) {a : Addr} {fs : List (Str × V)} (h : F a = some (.xd fs)) : H a = some (.xd fs) := by
  rcases l a _ h with h | ⟨⟨k, h | ⟨k, h⟩⟩, _⟩
  · exact h
  · cases h
  · cases h
theorem Le.gone {F H : Hp} (l : Le F H) {a : Addr} (h : H a = Option.none) : F a = Option.none := by
  cases e : F a with
  | none => rfl
  | some u =>
    rcases l a u e with q | ⟨_, _, q⟩
    · rw [h] at q; cases q
    · rw [h] at q; cases q
theorem Le.upd {F H : Hp} (l : Le F H) (a : Addr) (o : HO) : Le (L2.upd F a o) (L2.upd H a o) := fun b u h => by
  by_cases e : b = a
  · subst e; rw [upd_same] at h ⊢; exact .inl h
  · rw [upd_ne e] at h ⊢; exact l b u h
theorem Le.updR {F H : Hp} (l : Le F H) {a : Addr} (o : HO) (h : F a = Option.none) : Le F (L2.upd H a o) := fun b u e => by
  by_cases q : b = a
  · subst q; rw [h] at e; cases e
  · rw [upd_ne q]; exact l b u e
theorem Le.new {F : Hp} {a : Addr} (o : HO) (h : F a = Option.none) : Le F (L2.upd F a o) := (Le.refl F).updR o h

/-! ### what value stands for what -/
mutual
def Rp (c : Ctx) (H : Hp) : P → V → Prop
  | .non, v => v = .non
  | .bl b, v => v = .bl b
  | .int i, v => v = .int i
  | .str x, v => v = .str x
  | .tup ps, v => ∃ a vs, v = .ref a ∧ SqT c.K H a vs ∧ Rps c H ps vs
  | .lst ps, v => ∃ a vs, v = .ref a ∧ H a = some (.lst vs) ∧ Rps c H ps vs
  | .scr ns, v => ∃ a, v = .ref a ∧ SqL c.K H a (ns.map V.int)
  | .dct t ks ws, v => ∃ a vs, v = .ref a ∧ Rps c H ws vs ∧
      (if t = true then ∃ kvs : List (List Key × V), Rd H a (.dT kvs) ∧ ks = kvs.map (fun q => tkeyP q.1) ∧ vs = kvs.map (·.2) ∧ (kvs.map (·.1)).Nodup
       else ∃ kvs : List (Key × V), Rd H a (.dK kvs) ∧ ks = kvs.map (fun q => keyP q.1) ∧ vs = kvs.map (·.2) ∧ (kvs.map (·.1)).Nodup)
  | .obj C ps, v => ∃ a dx vs, v = .ref a ∧ H a = some (.ins (c.cls C) dx ((c.lay C).zip vs)) ∧ Rps c H ps vs
  | .fn f, v => v = .ref (c.fna f)
  | .ty n, v => v = .ty n
  | .cls C, v => v = .ref (c.cls C)
def Rps (c : Ctx) (H : Hp) : List P → List V → Prop
  | [], vs => vs = []
  | p :: ps, vs => ∃ v r, vs = v :: r ∧ Rp c H p v ∧ Rps c H ps r
end
mutual
theorem Rp.mono {c : Ctx} {F H : Hp} (l : Le F H) : ∀ (p : P) (v : V), Rp c F p v → Rp c H p v
  | .non, _, h => by unfold Rp at h ⊢; exact h
  | .bl _, _, h => by unfold Rp at h ⊢; exact h
  | .int _, _, h => by unfold Rp at h ⊢; exact h
  | .str _, _, h => by unfold Rp at h ⊢; exact h
  | .fn _, _, h => by unfold Rp at h ⊢; exact h
  | .ty _, _, h => by unfold Rp at h ⊢; exact h
  | .cls _, _, h => by unfold Rp at h ⊢; exact h
  | .tup ps, _, h => by
    unfold Rp at h ⊢
    obtain ⟨a, vs, e, h1, h2⟩ := h
    exact ⟨a, vs, e, l.sqT h1, Rps.mono l ps vs h2⟩
  | .lst ps, _, h => by
    unfold Rp at h ⊢
    obtain ⟨a, vs, e, h1, h2⟩ := h
    exact ⟨a, vs, e, l.lst h1, Rps.mono l ps vs h2⟩
  | .scr ns, _, h => by
    unfold Rp at h ⊢
    obtain ⟨a, e, h1⟩ := h
    exact ⟨a, e, l.sqL h1⟩
  | .dct t ks ws, _, h => by
    unfold Rp at h ⊢
    obtain ⟨a, vs, e, h1, h2⟩ := h
    refine ⟨a, vs, e, Rps.mono l ws vs h1, ?_⟩
    cases t
    · obtain ⟨kvs, q⟩ := h2
      exact ⟨kvs, l.rd q.1, q.2⟩
    · obtain ⟨kvs, q⟩ := h2
      exact ⟨kvs, l.rd q.1, q.2⟩
  | .obj C ps, _, h => by
    unfold Rp at h ⊢
    obtain ⟨a, dx, vs, e, h1, h2⟩ := h
    exact ⟨a, dx, vs, e, l.ins h1, Rps.mono l ps vs h2⟩
theorem Rps.mono {c : Ctx} {F H : Hp} (l : Le F H) : ∀ (ps : List P) (vs : List V), Rps c F ps vs → Rps c H ps vs
  | [], _, h => by unfold Rps at h ⊢; exact h
  | p :: ps, _, h => by
    unfold Rps at h ⊢
    obtain ⟨v, r, e, h1, h2⟩ := h
    exact ⟨v, r, e, Rp.mono l p v h1, Rps.mono l ps r h2⟩
end
section
variable {c : Ctx} {F H : Hp} {p q : P} {ps qs : List P} {v : V} {vs ws : List V}
theorem rps_nil : Rps c H [] [] := by unfold Rps; rfl
theorem rps_cons (h : Rp c H p v) (t : Rps c H ps vs) : Rps c H (p :: ps) (v :: vs) := by unfold Rps; exact ⟨v, vs, rfl, h, t⟩
theorem rps_inv (h : Rps c H (p :: ps) vs) : ∃ v r, vs = v :: r ∧ Rp c H p v ∧ Rps c H ps r := by unfold Rps at h; exact h
theorem rps_nil_inv (h : Rps c H [] vs) : vs = [] := by unfold Rps at h; exact h
theorem rps_len : ∀ {ps : List P} {vs : List V}, Rps c H ps vs → ps.length = vs.length
  | [], _, h => by rw [rps_nil_inv h]; rfl
  | p :: ps, _, h => by
    obtain ⟨v, r, rfl, _, h2⟩ := rps_inv h
    simp [rps_len h2]
theorem rps_get : ∀ {ps : List P} {vs : List V} {i : Nat} {p : P}, Rps c H ps vs → ps[i]? = some p → ∃ v, vs[i]? = some v ∧ Rp c H p v
  | [], _, _, _, _, e => by simp at e
  | _ :: _, _, 0, _, h, e => by
    obtain ⟨v, r, rfl, h1, _⟩ := rps_inv h
    simp at e; subst e
    exact ⟨v, rfl, h1⟩
  | _ :: _, _, i + 1, _, h, e => by
    obtain ⟨v, r, rfl, _, h2⟩ := rps_inv h
    obtain ⟨w, h3, h4⟩ := rps_get (i := i) h2 (by simpa using e)
    exact ⟨w, by simpa using h3, h4⟩
theorem rps_getV : ∀ {ps : List P} {vs : List V} {i : Nat} {v : V}, Rps c H ps vs → vs[i]? = some v → ∃ p, ps[i]? = some p ∧ Rp c H p v
  | [], _, _, _, h, e => by rw [rps_nil_inv h] at e; simp at e
  | _ :: _, _, 0, _, h, e => by
    obtain ⟨v, r, rfl, h1, _⟩ := rps_inv h
    simp at e; subst e
    exact ⟨_, rfl, h1⟩
  | _ :: _, _, i + 1, _, h, e => by
    obtain ⟨v, r, rfl, _, h2⟩ := rps_inv h
    obtain ⟨w, h3, h4⟩ := rps_getV (i := i) h2 (by simpa using e)
    exact ⟨w, by simpa using h3, h4⟩
theorem rps_append : ∀ {ps qs : List P} {vs ws : List V}, Rps c H ps vs → Rps c H qs ws → Rps c H (ps ++ qs) (vs ++ ws)
  | [], _, _, _, h, k => by rw [rps_nil_inv h]; exact k
  | p :: ps, _, _, _, h, k => by
    obtain ⟨v, r, rfl, h1, h2⟩ := rps_inv h
    exact rps_cons h1 (rps_append h2 k)
theorem rps_drop : ∀ {ps : List P} {vs : List V} (n : Nat), Rps c H ps vs → Rps c H (ps.drop n) (vs.drop n)
  | _, _, 0, h => h
  | [], _, n + 1, h => by rw [rps_nil_inv h]; exact rps_nil
  | p :: ps, _, n + 1, h => by
    obtain ⟨v, r, rfl, h1, h2⟩ := rps_inv h
    exact rps_drop n h2
theorem rps_take : ∀ {ps : List P} {vs : List V} (n : Nat), Rps c H ps vs → Rps c H (ps.take n) (vs.take n)
  | _, _, 0, h => rps_nil
  | [], _, n + 1, h => by rw [rps_nil_inv h]; exact rps_nil
  | p :: ps, _, n + 1, h => by
    obtain ⟨v, r, rfl, h1, h2⟩ := rps_inv h
    exact rps_cons h1 (rps_take n h2)
theorem rps_set : ∀ {ps : List P} {vs : List V} (n : Nat) {p : P} {v : V}, Rps c H ps vs → Rp c H p v → Rps c H (ps.set n p) (vs.set n v)
  | [], _, _, _, _, h, _ => by rw [rps_nil_inv h]; exact rps_nil
  | _ :: _, _, 0, _, _, h, k => by
    obtain ⟨v, r, rfl, h1, h2⟩ := rps_inv h
    exact rps_cons k h2
  | _ :: _, _, n + 1, _, _, h, k => by
    obtain ⟨v, r, rfl, h1, h2⟩ := rps_inv h
    exact rps_cons h1 (rps_set n h2 k)
theorem rps_reverse : ∀ {ps : List P} {vs : List V}, Rps c H ps vs → Rps c H ps.reverse vs.reverse
  | [], _, h => by rw [rps_nil_inv h]; exact rps_nil
  | p :: ps, _, h => by
    obtain ⟨v, r, rfl, h1, h2⟩ := rps_inv h
    rw [List.reverse_cons, List.reverse_cons]
    exact rps_append (rps_reverse h2) (rps_cons h1 rps_nil)
theorem rp_int {i : Int} (h : Rp c H (.int i) v) : v = .int i := by unfold Rp at h; exact h
theorem rp_bl {b : Bool} (h : Rp c H (.bl b) v) : v = .bl b := by unfold Rp at h; exact h
theorem rp_str {x : Str} (h : Rp c H (.str x) v) : v = .str x := by unfold Rp at h; exact h
theorem rp_non (h : Rp c H .non v) : v = .non := by unfold Rp at h; exact h
theorem rp_fn {f : Nat} (h : Rp c H (.fn f) v) : v = .ref (c.fna f) := by unfold Rp at h; exact h
theorem rp_ty {n : String} (h : Rp c H (.ty n) v) : v = .ty n := by unfold Rp at h; exact h
theorem rp_cls {C : Nat} (h : Rp c H (.cls C) v) : v = .ref (c.cls C) := by unfold Rp at h; exact h
theorem mk_ty {n : String} : Rp c H (.ty n) (.ty n) := by unfold Rp; rfl
theorem mk_cls {C : Nat} : Rp c H (.cls C) (.ref (c.cls C)) := by unfold Rp; rfl
theorem mk_fn {f : Nat} : Rp c H (.fn f) (.ref (c.fna f)) := by unfold Rp; rfl
theorem rp_tup (h : Rp c H (.tup ps) v) : ∃ a vs, v = .ref a ∧ SqT c.K H a vs ∧ Rps c H ps vs := by unfold Rp at h; exact h
theorem rp_scr {ns : List Int} (h : Rp c H (.scr ns) v) : ∃ a, v = .ref a ∧ SqL c.K H a (ns.map V.int) := by unfold Rp at h; exact h
theorem mk_scr {a : Addr} {ns : List Int} (h : SqL c.K H a (ns.map V.int)) : Rp c H (.scr ns) (.ref a) := by unfold Rp; exact ⟨a, rfl, h⟩
theorem rp_lst (h : Rp c H (.lst ps) v) : ∃ a vs, v = .ref a ∧ H a = some (.lst vs) ∧ Rps c H ps vs := by unfold Rp at h; exact h
theorem rp_obj {C : Nat} (h : Rp c H (.obj C ps) v) : ∃ a dx vs, v = .ref a ∧ H a = some (.ins (c.cls C) dx ((c.lay C).zip vs)) ∧ Rps c H ps vs := by unfold Rp at h; exact h
theorem mk_int {i : Int} : Rp c H (.int i) (.int i) := by unfold Rp; rfl
theorem mk_bl {b : Bool} : Rp c H (.bl b) (.bl b) := by unfold Rp; rfl
theorem mk_str {x : Str} : Rp c H (.str x) (.str x) := by unfold Rp; rfl
theorem mk_non : Rp c H .non .non := by unfold Rp; rfl
theorem mk_tup {a : Addr} (h : SqT c.K H a vs) (r : Rps c H ps vs) : Rp c H (.tup ps) (.ref a) := by unfold Rp; exact ⟨a, vs, rfl, h, r⟩
theorem mk_lst {a : Addr} (h : H a = some (.lst vs)) (r : Rps c H ps vs) : Rp c H (.lst ps) (.ref a) := by unfold Rp; exact ⟨a, vs, rfl, h, r⟩
theorem mk_obj {a dx : Addr} {C : Nat} (h : H a = some (.ins (c.cls C) dx ((c.lay C).zip vs))) (r : Rps c H ps vs) : Rp c H (.obj C ps) (.ref a) := by unfold Rp; exact ⟨a, dx, vs, rfl, h, r⟩
end

/-! ### slots -/
/-- what a slot owns: nothing else leads to it -/
inductive O where
  | lst (xs : List P) | dct (t : Bool) (ks vs : List P) | obj (C : Nat) (vs : List P)
def O.toP : O → P
  | .lst xs => .lst xs
  | .dct t ks vs => .dct t ks vs
  | .obj C vs => .obj C vs
/-- a slot: empty, a value that never changes, an object of its own, an object lent by the caller -/
inductive Sl where
  | no | val (p : P) | own (o : O) | loan (o : O)
def Sl.ow : Sl → Option O
  | .own o => some o
  | .loan o => some o
  | _ => none
abbrev En := List Sl
/-- an object that is owned: its parts never change (they lie in F) -/
def OwR (c : Ctx) (F H : Hp) : O → Addr → Prop
  | .lst ps, a => ∃ vs, H a = some (.lst vs) ∧ Rps c F ps vs
  | .dct t ks ws, a => ∃ vs, Rps c F ws vs ∧
      (if t = true then ∃ kvs : List (List Key × V), H a = some (.dT kvs) ∧ ks = kvs.map (fun q => tkeyP q.1) ∧ vs = kvs.map (·.2) ∧ (kvs.map (·.1)).Nodup
       else ∃ kvs : List (Key × V), H a = some (.dK kvs) ∧ ks = kvs.map (fun q => keyP q.1) ∧ vs = kvs.map (·.2) ∧ (kvs.map (·.1)).Nodup)
  | .obj C ps, a => ∃ dx vs, H a = some (.ins (c.cls C) dx ((c.lay C).zip vs)) ∧ Rps c F ps vs
theorem OwR.there {c : Ctx} {F H : Hp} {o : O} {a : Addr} (h : OwR c F H o a) : ∃ u, H a = some u := by
  cases o with
  | lst ps => obtain ⟨vs, h, _⟩ := h; exact ⟨_, h⟩
  | dct t ks ws =>
    obtain ⟨vs, _, h⟩ := h
    cases t
    · obtain ⟨kvs, h, _⟩ := h; exact ⟨_, h⟩
    · obtain ⟨kvs, h, _⟩ := h; exact ⟨_, h⟩
  | obj C ps => obtain ⟨dx, vs, h, _⟩ := h; exact ⟨_, h⟩
theorem OwR.step {c : Ctx} {F H F' H' : Hp} {o : O} {a : Addr} (h : OwR c F H o a) (l : Le F F') (k : ∀ u, H a = some u → H' a = some u) : OwR c F' H' o a := by
  cases o with
  | lst ps => obtain ⟨vs, h, r⟩ := h; exact ⟨vs, k _ h, Rps.mono l _ _ r⟩
  | dct t ks ws =>
    obtain ⟨vs, r, h⟩ := h
    refine ⟨vs, Rps.mono l _ _ r, ?_⟩
    cases t
    · obtain ⟨kvs, h, q⟩ := h; exact ⟨kvs, k _ h, q⟩
    · obtain ⟨kvs, h, q⟩ := h; exact ⟨kvs, k _ h, q⟩
  | obj C ps => obtain ⟨dx, vs, h, r⟩ := h; exact ⟨dx, vs, k _ h, Rps.mono l _ _ r⟩
/-- seen as a value, where its object is known -/
theorem OwR.rp {c : Ctx} {F H G : Hp} {o : O} {a : Addr} (h : OwR c F H o a) (l : Le F G) (k : ∀ u, H a = some u → G a = some u) : Rp c G o.toP (.ref a) := by
  cases o with
  | lst ps => obtain ⟨vs, h, r⟩ := h; exact mk_lst (k _ h) (Rps.mono l _ _ r)
  | dct t ks ws =>
    obtain ⟨vs, r, h⟩ := h
    show Rp c G (.dct t ks ws) (.ref a)
    unfold Rp
    refine ⟨a, vs, rfl, Rps.mono l _ _ r, ?_⟩
    cases t
    · obtain ⟨kvs, h, q⟩ := h; exact ⟨kvs, .inl (k _ h), q⟩
    · obtain ⟨kvs, h, q⟩ := h; exact ⟨kvs, .inl (k _ h), q⟩
  | obj C ps => obtain ⟨dx, vs, h, r⟩ := h; exact mk_obj (k _ h) (Rps.mono l _ _ r)

def Own (π : En) (σ : L2.St) (a : Addr) : Prop := ∃ (i : Nat) (s : Sl) (o : O), π[i]? = some s ∧ s.ow = some o ∧ σ[i]? = some (some (.ref a))
def Lent (π : En) (σ : L2.St) (a : Addr) : Prop := ∃ (i : Nat) (o : O), π[i]? = some (.loan o) ∧ σ[i]? = some (some (.ref a))
theorem Lent.own {π : En} {σ : L2.St} {a : Addr} (h : Lent π σ a) : Own π σ a := by
  obtain ⟨i, o, h1, h2⟩ := h
  exact ⟨i, _, o, h1, rfl, h2⟩
/-- slots σ and heap H stand for π; F: what never changes -/
structure SR (c : Ctx) (F : Hp) (π : En) (σ : L2.St) (H : Hp) : Prop where
  le : Le F H
  len : π.length = σ.length
  vl : ∀ (i : Nat) (p : P), π[i]? = some (.val p) → ∃ v, σ[i]? = some (some v) ∧ Rp c F p v
  ow : ∀ (i : Nat) (s : Sl) (o : O), π[i]? = some s → s.ow = some o → ∃ a, σ[i]? = some (some (.ref a)) ∧ F a = none ∧ OwR c F H o a
  dj : ∀ (i j : Nat) (s s' : Sl) (o o' : O) (a : Addr), π[i]? = some s → s.ow = some o → π[j]? = some s' → s'.ow = some o' → σ[i]? = some (some (.ref a)) → σ[j]? = some (some (.ref a)) → i = j
/-- from (F, π, σ, H) on -/
structure Tr (F : Hp) (π : En) (σ : L2.St) (H F' : Hp) (π' : En) (σ' : L2.St) (H' : Hp) : Prop where
  le : Le F F'
  keep : ∀ a o, H a = some o → ¬ Own π σ a → H' a = some o
  new : ∀ a, F' a ≠ none → F a ≠ none ∨ H a = none ∨ Own π σ a
  own : ∀ a, Own π' σ' a → H a = none ∨ Own π σ a
  ln : ∀ (i : Nat) (o : O), π[i]? = some (.loan o) → σ'[i]? = σ[i]? ∧ ∃ o', π'[i]? = some (.loan o')
theorem Tr.refl {F : Hp} {π : En} {σ : L2.St} {H : Hp} : Tr F π σ H F π σ H :=
  ⟨Le.refl F, fun _ _ h _ => h, fun _ h => .inl h, fun _ h => .inr h, fun i o h => ⟨rfl, o, h⟩⟩
theorem Tr.trans {F F1 F2 : Hp} {π π1 π2 : En} {σ σ1 σ2 : L2.St} {H H1 H2 : Hp} (a : Tr F π σ H F1 π1 σ1 H1) (b : Tr F1 π1 σ1 H1 F2 π2 σ2 H2) : Tr F π σ H F2 π2 σ2 H2 where
  le := a.le.trans b.le
  keep := fun x o h n => b.keep x o (a.keep x o h n) fun z => by
    rcases a.own x z with q | q
    · rw [h] at q; cases q
    · exact n q
  new := fun x h => by
    rcases b.new x h with q | q | q
    · exact a.new x q
    · by_cases n : Own π σ x
      · exact .inr (.inr n)
      · cases e : H x with
        | none => exact .inr (.inl rfl)
        | some o => rw [a.keep x o e n] at q; cases q
    · rcases a.own x q with q | q
      · exact .inr (.inl q)
      · exact .inr (.inr q)
  own := fun x h => by
    rcases b.own x h with q | q
    · by_cases n : Own π σ x
      · exact .inr n
      · cases e : H x with
        | none => exact .inl rfl
        | some o => rw [a.keep x o e n] at q; cases q
    · exact a.own x q
  ln := fun i o h => by
    obtain ⟨e1, o1, h1⟩ := a.ln i o h
    obtain ⟨e2, o2, h2⟩ := b.ln i o1 h1
    exact ⟨e2.trans e1, o2, h2⟩
/-- fresh with regard to a start -/
def Fr0 (π : En) (σ : L2.St) (H : Hp) (a : Addr) : Prop := H a = none ∨ Own π σ a
theorem Fr0.back {F F1 : Hp} {π π1 : En} {σ σ1 : L2.St} {H H1 : Hp} (t : Tr F π σ H F1 π1 σ1 H1) {a : Addr} (h : Fr0 π1 σ1 H1 a) : Fr0 π σ H a := by
  rcases h with q | q
  · by_cases n : Own π σ a
    · exact .inr n
    · cases e : H a with
      | none => exact .inl e
      | some o => rw [t.keep a o e n] at q; cases q
  · exact t.own a q
end PV

namespace PV
open PySem L2

/-- a result: a value, a new object that nothing else leads to, or what slot i owns -/
inductive Rs where
  | val (p : P) | own (o : O) | bor (i : Nat)
inductive Rv where
  | val (p : P) | own (o : O)
inductive Out (α : Type) where
  | ok (a : α) (π : En) | exc (C : Nat) (ps : List P) (π : En) | bad
abbrev M (α : Type) := En → Out α
def Out.bind {α β : Type} (o : Out α) (f : α → M β) : Out β := match o with
  | .ok a π => f a π
  | .exc C ps π => .exc C ps π
  | .bad => .bad
def M.bind {α β : Type} (m : M α) (f : α → M β) : M β := fun π => (m π).bind f

/-- an exception's own dict -/
def XdOk (c : Ctx) (F : Hp) (C : Nat) (ps : List P) (d : Option Addr) : Prop :=
  (c.lay C = [] ∧ d = none) ∨ ∃ a vs, d = some a ∧ F a = some (.xd ((c.lay C).zip vs).reverse) ∧ Rps c F ps vs
/-- what is wanted of exceptions; what is known of F besides -/
structure Wi where
  W : WX
  g : L2.St → Hp → Prop
  mono : ∀ {σ : L2.St} (F F' : Hp), Le F F' → g σ F → g σ F'
/-- .. whatever the slots hold -/
structure Ws where
  W : WX
  g : Hp → Prop
  mono : ∀ F F', Le F F' → g F → g F'
def Ws.up (w : Ws) : Wi := ⟨w.W, fun _ => w.g, fun F F' => w.mono F F'⟩
instance : Coe Ws Wi := ⟨Ws.up⟩

def Po {α : Type} (c : Ctx) (W : WX) (F : Hp) (π : En) (σ : L2.St) (H : Hp) (o : Out α) (K : α → En → Hp → Hp → Prop) : Prop := match o with
  | .ok a π' => ∀ F' H', Tr F π σ H F' π' σ H' → SR c F' π' σ H' → K a π' F' H'
  | .exc C ps π' => ∀ F' H' d, Tr F π σ H F' π' σ H' → SR c F' π' σ H' → XdOk c F' C ps d → W (.ref (c.cls C)) d σ H'
  | .bad => False
section
variable {α β : Type} {c : Ctx} {W : WX} {F F1 H H1 : Hp} {π π1 : En} {σ : L2.St} {o : Out α} {K K' : α → En → Hp → Hp → Prop} {J : β → En → Hp → Hp → Prop}
theorem Po.mono (h : Po c W F π σ H o K) (k : ∀ a π' F' H', Tr F π σ H F' π' σ H' → SR c F' π' σ H' → K a π' F' H' → K' a π' F' H') : Po c W F π σ H o K' := by
  cases o with
  | ok a π' => exact fun F' H' t s => k a π' F' H' t s (h F' H' t s)
  | exc C ps π' => exact h
  | bad => exact h
theorem Po.from (h : Po c W F π σ H o K) (t : Tr F π σ H F1 π1 σ H1) : Po c W F1 π1 σ H1 o K := by
  cases o with
  | ok a π' => exact fun F' H' t' s => h F' H' (t.trans t') s
  | exc C ps π' => exact fun F' H' d t' s => h F' H' d (t.trans t') s
  | bad => exact h
theorem Po.split {f : α → M β} (h : Po c W F π σ H (o.bind f) J) : Po c W F π σ H o (fun a π1 F1 H1 => Po c W F1 π1 σ H1 (f a π1) J) := by
  cases o with
  | ok a π' => exact fun F' H' t s => Po.from h t
  | exc C ps π' => exact h
  | bad => exact h
end

/-- what a result is -/
def RR (c : Ctx) (π0 : En) (H0 F : Hp) (π : En) (σ : L2.St) (H : Hp) : Rs → V → Prop
  | .val p, v => Rp c F p v
  | .own o, v => ∃ a, v = .ref a ∧ F a = none ∧ ¬ Own π σ a ∧ OwR c F H o a ∧ Fr0 π0 σ H0 a
  | .bor i, v => σ[i]? = some (some v)
def rdP (π : En) : Rs → Option P
  | .val p => some p
  | .own o => some o.toP
  | .bor i => match π[i]? with
    | some (.own o) => some o.toP
    | some (.loan o) => some o.toP
    | some (.val p) => some p
    | _ => none
/-- readable: a value, or an owned object as it stands -/
def Rb (c : Ctx) (F H : Hp) (p : P) (v : V) : Prop := Rp c F p v ∨ ∃ a o, v = .ref a ∧ OwR c F H o a ∧ p = o.toP
section
variable {c : Ctx} {W : WX} {F F' F1 H H' H1 H0 : Hp} {π π' π0 : En} {σ : L2.St} {r : Rs} {v : V} {p : P} {o : O} {a : Addr} {i : Nat} {u : HO}
theorem RR.step (h : RR c π0 H0 F π σ H r v) (t : Tr F π σ H F' π' σ H') : RR c π0 H0 F' π' σ H' r v := by
  cases r with
  | val p => exact Rp.mono t.le _ _ h
  | bor i => exact h
  | own o =>
    obtain ⟨a, e, h1, h2, h3, h4⟩ := h
    obtain ⟨u, hu⟩ := h3.there
    refine ⟨a, e, ?_, fun z => ?_, h3.step t.le (fun u' q => t.keep a u' q h2), h4⟩
    · cases q : F' a with
      | none => rfl
      | some x =>
        rcases t.new a (by rw [q]; exact fun z => nomatch z) with z | z | z
        · exact absurd h1 z
        · rw [hu] at z; cases z
        · exact absurd z h2
    · rcases t.own a z with q | q
      · rw [hu] at q; cases q
      · exact h2 q
theorem RR.base {Fz : Hp} (h : RR c π0 H0 F π σ H r v) (t : Tr Fz π' σ H' F1 π0 σ H0) : RR c π' H' F π σ H r v := by
  cases r with
  | val p => exact h
  | bor i => exact h
  | own o =>
    obtain ⟨a, e, h1, h2, h3, h4⟩ := h
    exact ⟨a, e, h1, h2, h3, h4.back t⟩
theorem RR.rb (s : SR c F π σ H) (h : RR c π0 H0 F π σ H r v) (e : rdP π r = some p) : Rb c F H p v := by
  cases r with
  | val q =>
    have e' : q = p := Option.some.inj e
    subst e'
    exact .inl h
  | own o =>
    have e' : o.toP = p := Option.some.inj e
    obtain ⟨a, e2, h1, h2, h3, h4⟩ := h
    exact .inr ⟨a, o, e2, h3, e'.symm⟩
  | bor i =>
    simp only [rdP] at e
    have h' : σ[i]? = some (some v) := h
    cases q : π[i]? with
    | none => rw [q] at e; cases e
    | some sl =>
      rw [q] at e
      cases sl with
      | no => cases e
      | val p' =>
        have e' : p' = p := Option.some.inj e
        subst e'
        obtain ⟨v', e1, h1⟩ := s.vl i p' q
        rw [h'] at e1
        have e3 : v = v' := Option.some.inj (Option.some.inj e1)
        subst e3
        exact .inl h1
      | own o =>
        have e' : o.toP = p := Option.some.inj e
        obtain ⟨a, e1, h1, h2⟩ := s.ow i _ o q rfl
        rw [h'] at e1
        exact .inr ⟨a, o, Option.some.inj (Option.some.inj e1), h2, e'.symm⟩
      | loan o =>
        have e' : o.toP = p := Option.some.inj e
        obtain ⟨a, e1, h1, h2⟩ := s.ow i _ o q rfl
        rw [h'] at e1
        exact .inr ⟨a, o, Option.some.inj (Option.some.inj e1), h2, e'.symm⟩
/-- an object that nothing leads to is known from now on -/
theorem SR.grow (s : SR c F π σ H) (hF : F a = none) (hn : ¬ Own π σ a) (hu : H a = some u) : SR c (L2.upd F a u) π σ H where
  le := fun b x e => by
    by_cases z : b = a
    · subst z; rw [upd_same] at e; cases e; exact .inl hu
    · rw [upd_ne z] at e; exact s.le b x e
  len := s.len
  vl := fun i p e => by
    obtain ⟨v, e1, h1⟩ := s.vl i p e
    exact ⟨v, e1, Rp.mono (Le.new u hF) _ _ h1⟩
  ow := fun i sl o e1 e2 => by
    obtain ⟨b, e3, h1, h2⟩ := s.ow i sl o e1 e2
    refine ⟨b, e3, ?_, h2.step (Le.new u hF) fun _ q => q⟩
    rw [upd_ne fun z => ?_]
    · exact h1
    · subst z; exact hn ⟨i, sl, o, e1, e2, e3⟩
  dj := s.dj
theorem Tr.grow (t : Tr F1 π' σ H1 F π σ H) (hF : F a = none) (hf : Fr0 π' σ H1 a) : Tr F1 π' σ H1 (L2.upd F a u) π σ H where
  le := t.le.trans (Le.new u hF)
  keep := t.keep
  new := fun b e => by
    by_cases z : b = a
    · subst z
      exact .inr hf
    · rw [upd_ne z] at e; exact t.new b e
  own := t.own
  ln := t.ln
/-- what slot i owns never changes from now on -/
theorem SR.freeze (s : SR c F π σ H) (hi : π[i]? = some (.own o)) (hσ : σ[i]? = some (some (.ref a))) (hu : H a = some u) :
    SR c (L2.upd F a u) (π.set i (.val o.toP)) σ H ∧ Tr F π σ H (L2.upd F a u) (π.set i (.val o.toP)) σ H ∧ Rp c (L2.upd F a u) o.toP (.ref a) := by
  obtain ⟨b, e1, hF, hO⟩ := s.ow i _ o hi rfl
  rw [hσ] at e1
  have e2 : a = b := by injection Option.some.inj (Option.some.inj e1)
  subst e2
  have hlt : i < π.length := (List.getElem?_eq_some_iff.mp hi).1
  have rp : Rp c (L2.upd F a u) o.toP (.ref a) := hO.rp (Le.new u hF) fun x q => by
    rw [hu] at q; cases q; exact upd_same
  have back : ∀ (j : Nat) (sl : Sl) (o' : O), (π.set i (.val o.toP))[j]? = some sl → sl.ow = some o' → π[j]? = some sl ∧ j ≠ i := fun j sl o' e1 e2 => by
    by_cases z : j = i
    · subst z
      rw [List.getElem?_set_self hlt] at e1
      cases e1
      cases e2
    · rw [List.getElem?_set_ne (Ne.symm z)] at e1
      exact ⟨e1, z⟩
  have own' : ∀ b, Own (π.set i (.val o.toP)) σ b → Own π σ b := fun b ⟨j, sl, o', e1, e2, e3⟩ => ⟨j, sl, o', (back j sl o' e1 e2).1, e2, e3⟩
  refine ⟨⟨?_, by simpa using s.len, ?_, ?_, ?_⟩, ⟨Le.new u hF, fun _ _ h _ => h, fun b e => ?_, fun b h => .inr (own' b h), fun j o' e => ⟨rfl, o', ?_⟩⟩, rp⟩
  · exact fun b x e => by
      by_cases z : b = a
      · subst z; rw [upd_same] at e; cases e; exact .inl hu
      · rw [upd_ne z] at e; exact s.le b x e
  · intro j p e
    by_cases z : j = i
    · subst z
      rw [List.getElem?_set_self hlt] at e
      cases e
      exact ⟨_, hσ, rp⟩
    · rw [List.getElem?_set_ne (Ne.symm z)] at e
      obtain ⟨v, e1, h1⟩ := s.vl j p e
      exact ⟨v, e1, Rp.mono (Le.new u hF) _ _ h1⟩
  · intro j sl o' e1 e2
    obtain ⟨e1', ne⟩ := back j sl o' e1 e2
    obtain ⟨b, e3, h1, h2⟩ := s.ow j sl o' e1' e2
    refine ⟨b, e3, ?_, h2.step (Le.new u hF) fun _ q => q⟩
    rw [upd_ne fun z => ?_]
    · exact h1
    · subst z; exact ne (s.dj j i _ _ o' o _ e1' e2 hi rfl e3 hσ)
  · intro j k sl sl' o1 o2 b e1 e2 e3 e4 e5 e6
    exact s.dj j k sl sl' o1 o2 b (back j sl o1 e1 e2).1 e2 (back k sl' o2 e3 e4).1 e4 e5 e6
  · by_cases z : b = a
    · subst z; exact .inr (.inr ⟨i, _, o, hi, rfl, hσ⟩)
    · rw [upd_ne z] at e; exact .inl e
  · by_cases z : j = i
    · subst z; rw [hi] at e; cases e
    · rw [List.getElem?_set_ne (Ne.symm z)]; exact e
end

/-! ### readings of expressions -/
def tE (c : Ctx) (w : Wi) (f : M Rs) : TE := fun σ H Q => ∃ F π, w.g σ F ∧ SR c F π σ H ∧ Po c w.W F π σ H (f π) (fun r π' F' H' => ∀ v, RR c π H F' π' σ H' r v → Q v H')
/-- as a value -/
def tV (c : Ctx) (w : Wi) (f : M P) : TE := fun σ H Q => ∃ F π, w.g σ F ∧ SR c F π σ H ∧ Po c w.W F π σ H (f π) (fun p π' F' H' => ∀ v, Rp c F' p v → Q v H')
def tT (c : Ctx) (w : Wi) (f : M Bool) : TT := fun σ H Q => ∃ F π, w.g σ F ∧ SR c F π σ H ∧ Po c w.W F π σ H (f π) (fun b π' F' H' => Q b H')
def tAs (c : Ctx) (w : Wi) (f : M (List P)) : TA := fun σ H Q => ∃ F π, w.g σ F ∧ SR c F π σ H ∧ Po c w.W F π σ H (f π) (fun ps π' F' H' => ∀ vs, Rps c F' ps vs → Q vs H')
/-- a result is taken: from now on it never changes -/
def takeR (r : Rs) : M P := fun π => match r with
  | .val p => .ok p π
  | .own o => .ok o.toP π
  | .bor i => match π[i]? with
    | some (.own o) => .ok o.toP (π.set i (.val o.toP))
    | some (.val p) => .ok p π
    | _ => .bad
def takeF (f : M Rs) : M P := fun π => (f π).bind takeR
theorem tE_of_tV {c : Ctx} {w : Wi} {f : M Rs} {σ : L2.St} {H : Hp} {Q : VK} (h : tV c w (takeF f) σ H Q) : tE c w f σ H Q := by
  obtain ⟨F, π, g, s, po⟩ := h
  refine ⟨F, π, g, s, ?_⟩
  unfold takeF at po
  cases e : f π with
  | bad => rw [e] at po; exact po
  | exc C ps π1 => rw [e] at po; exact po
  | ok r π1 =>
    rw [e] at po
    intro F1 H1 t s1 v hr
    cases r with
    | val p => exact po F1 H1 t s1 v hr
    | own o =>
      obtain ⟨a, rfl, h1, h2, h3, h4⟩ := hr
      obtain ⟨u, hu⟩ := h3.there
      exact po (L2.upd F1 a u) H1 (t.grow h1 h4) (s1.grow h1 h2 hu) _ (h3.rp (Le.new u h1) fun x q => by rw [hu] at q; cases q; exact upd_same)
    | bor i =>
      have hr' : σ[i]? = some (some v) := hr
      simp only [Out.bind, takeR] at po
      cases q : π1[i]? with
      | none => rw [q] at po; exact po.elim
      | some sl =>
        rw [q] at po
        cases sl with
        | no => exact po.elim
        | loan o => exact po.elim
        | val p =>
          obtain ⟨v', e1, h1⟩ := s1.vl i p q
          rw [hr'] at e1
          have e3 : v = v' := Option.some.inj (Option.some.inj e1)
          subst e3
          exact po F1 H1 t s1 v h1
        | own o =>
          obtain ⟨a, e1, h1, h2⟩ := s1.ow i _ o q rfl
          rw [hr'] at e1
          have e3 : v = .ref a := Option.some.inj (Option.some.inj e1)
          subst e3
          obtain ⟨u, hu⟩ := h2.there
          obtain ⟨s2, t2, rp⟩ := s1.freeze q hr' hu
          exact po _ H1 (t.trans t2) s2 _ rp
theorem pe_weak {X : Cx} {e : Expr} {t t' : TE} (h : PE X e t) (k : ∀ σ H Q, t' σ H Q → t σ H Q) : PE X e t' := ⟨fun pins s σ H Q I q => h.run pins s σ H Q I (k _ _ _ q)⟩
theorem pt_weak {X : Cx} {e : Expr} {t t' : TT} (h : PT X e t) (k : ∀ σ H Q, t' σ H Q → t σ H Q) : PT X e t' := ⟨fun pins s σ H Q I q => h.run pins s σ H Q I (k _ _ _ q)⟩
theorem pa_weak {X : Cx} {e : List Expr} {t t' : TA} (h : PA X e t) (k : ∀ σ H Q, t' σ H Q → t σ H Q) : PA X e t' := ⟨fun pos pins s σ H Q I q => h.run pos pins s σ H Q I (k _ _ _ q)⟩
theorem ps_weak {X : Cx} {e : Stmt} {t t' : TS} (h : PS X e t) (k : ∀ D σ H, t' D σ H → t D σ H) : PS X e t' := ⟨fun pins s σ H Q I q => h.run pins s σ H Q I (k _ _ _ q)⟩
theorem pss_weak {X : Cx} {e : List Stmt} {t t' : TS} (h : PSs X e t) (k : ∀ D σ H, t' D σ H → t D σ H) : PSs X e t' := ⟨fun pins s σ H Q I q => h.run pins s σ H Q I (k _ _ _ q)⟩
section
variable {X : Cx} {c : Ctx} {w : Wi} {e : Expr} {pos : Pos} {f : M Rs}
/-- e, taken -/
theorem p_take (h : PE X e (tE c w f)) : PE X e (tV c w (takeF f)) := pe_weak h fun _ _ _ => tE_of_tV
/-- a value is a result -/
def valF (f : M P) : M Rs := fun π => (f π).bind fun p π' => .ok (.val p) π'
theorem p_val {f : M P} (h : PE X e (tV c w f)) : PE X e (tE c w (valF f)) := pe_weak h fun σ H Q ⟨F, π, g, s, po⟩ =>
  ⟨F, π, g, s, (Po.split po).mono fun p π1 F1 H1 t s1 p1 v hr => p1 F1 H1 .refl s1 v hr⟩
/-- names -/
def varF (i : Nat) : M Rs := fun π => match π[i]? with
  | some (.val p) => .ok (.val p) π
  | some (.own _) => .ok (.bor i) π
  | some (.loan _) => .ok (.bor i) π
  | _ => .bad
theorem p_var {x : Str} (i : Nat) (hN : X.N[i]? = some x := by rfl) (hv : Vis X.env.scope x := by first | exact Or.inl rfl | exact Or.inr (Or.inl rfl) | exact Or.inr (Or.inr rfl)) (hd : (x == ("__debug__" : Str)) = false := by decide)
    (hcd : (x == ("__classdict__" : Str)) = false := by decide) : PE X (.Name x pos) (tE c w (varF i)) := pe_weak (pe_var hN hv hd hcd) fun σ H Q ⟨F, π, g, s, po⟩ => by
  simp only [varF] at po
  cases q : π[i]? with
  | none => rw [q] at po; exact po.elim
  | some sl =>
    rw [q] at po
    cases sl with
    | no => exact po.elim
    | val p =>
      obtain ⟨v, e1, h1⟩ := s.vl i p q
      exact ⟨v, e1, po F H .refl s v h1⟩
    | own o =>
      obtain ⟨a, e1, h1⟩ := s.ow i _ o q rfl
      exact ⟨_, e1, po F H .refl s _ e1⟩
    | loan o =>
      obtain ⟨a, e1, h1⟩ := s.ow i _ o q rfl
      exact ⟨_, e1, po F H .refl s _ e1⟩
/-- constants -/
def cF (p : P) : M Rs := fun π => .ok (.val p) π
theorem tC_of {p : P} {v : V} (h : ∀ F, Rp c F p v) : ∀ σ H Q, tE c w (cF p) σ H Q → tC v σ H Q := fun σ H Q ⟨F, π, g, s, po⟩ => po F H .refl s v (h F)
theorem p_int {i : Int} {j} : PE X (.Constant (.int i) j pos) (tE c w (cF (.int i))) := pe_weak pe_int (tC_of fun _ => mk_int)
theorem p_bl {b : Bool} {j} : PE X (.Constant (.bool b) j pos) (tE c w (cF (.bl b))) := pe_weak pe_bl (tC_of fun _ => mk_bl)
theorem p_non {j} : PE X (.Constant .none j pos) (tE c w (cF .non)) := pe_weak pe_non (tC_of fun _ => mk_non)
theorem p_str {x : Str} {j} : PE X (.Constant (.str x) j pos) (tE c w (cF (.str x))) := pe_weak pe_str (tC_of fun _ => mk_str)
end
end PV

namespace PV
open PySem L2

/-! ### operations on values that change nothing but make new objects -/
/-- F and H grow by new objects -/
structure Gr (F H F' H' : Hp) : Prop where
  le : Le F F'
  le' : Le F' H'
  keep : ∀ a o, H a = some o → H' a = some o
  new : ∀ a, F' a ≠ none → F a ≠ none ∨ H a = none
/-- a new result -/
def RN (c : Ctx) (H F' H' : Hp) : Rv → V → Prop
  | .val p, v => Rp c F' p v
  | .own o, v => ∃ a, v = .ref a ∧ H a = none ∧ F' a = none ∧ OwR c F' H' o a
section
variable {c : Ctx} {w : Wi} {W : WX} {F F' F1 H H' H1 H0 : Hp} {π π' π0 : En} {σ : L2.St} {r : Rs} {rv : Rv} {v : V} {p : P} {o : O} {a : Addr} {i : Nat} {u : HO}
theorem Gr.refl (l : Le F H) : Gr F H F H := ⟨Le.refl F, l, fun _ _ h => h, fun _ h => .inl h⟩
theorem Gr.tr (g : Gr F H F' H') : Tr F π σ H F' π σ H' := ⟨g.le, fun a o h _ => g.keep a o h, fun a h => (g.new a h).imp id .inl, fun a h => .inr h, fun i o h => ⟨rfl, o, h⟩⟩
theorem Gr.sr (g : Gr F H F' H') (s : SR c F π σ H) : SR c F' π σ H' where
  le := g.le'
  len := s.len
  vl := fun i p e => by
    obtain ⟨v, e1, h1⟩ := s.vl i p e
    exact ⟨v, e1, Rp.mono g.le _ _ h1⟩
  ow := fun i sl o e1 e2 => by
    obtain ⟨b, e3, h1, h2⟩ := s.ow i sl o e1 e2
    refine ⟨b, e3, ?_, h2.step g.le fun u q => g.keep b u q⟩
    cases q : F' b with
    | none => rfl
    | some x =>
      rcases g.new b (by rw [q]; exact fun z => nomatch z) with z | z
      · exact absurd h1 z
      · obtain ⟨u, hu⟩ := h2.there
        rw [hu] at z; cases z
  dj := s.dj
theorem own_some (s : SR c F π σ H) (h : Own π σ a) : ∃ u, H a = some u := by
  obtain ⟨i, sl, o, e1, e2, e3⟩ := h
  obtain ⟨b, e4, _, h2⟩ := s.ow i sl o e1 e2
  rw [e3] at e4
  have e5 : a = b := by injection Option.some.inj (Option.some.inj e4)
  subst e5
  exact h2.there
def Rv.rs : Rv → Rs
  | .val p => .val p
  | .own o => .own o
theorem RN.rr (s : SR c F π σ H) (g : Gr F H F' H') (h : RN c H F' H' rv v) : RR c π H F' π σ H' rv.rs v := by
  cases rv with
  | val p => exact h
  | own o =>
    obtain ⟨a, e, h1, h2, h3⟩ := h
    refine ⟨a, e, h2, fun z => ?_, h3, .inl h1⟩
    obtain ⟨u, hu⟩ := own_some s z
    rw [hu] at h1; cases h1
/-- a new tuple, list -/
theorem gr_tup {vs : List V} (l : Le F H) (h : H a = none) : Gr F H (L2.upd F a (.tup vs)) (L2.upd H a (.tup vs)) :=
  ⟨Le.new _ (l.gone h), l.upd _ _, fun b o e => by rw [upd_ne (ne_of_none e h)]; exact e, fun b e => by
    by_cases z : b = a
    · subst z; exact .inr h
    · rw [upd_ne z] at e; exact .inl e⟩
theorem gr_lst (l : Le F H) (h : H a = none) : Gr F H F (L2.upd H a u) :=
  ⟨Le.refl F, l.updR _ (l.gone h), fun b o e => by rw [upd_ne (ne_of_none e h)]; exact e, fun b e => .inl e⟩
theorem rn_tup {ps : List P} {vs : List V} (l : Le F H) (h : H a = none) (r : Rps c F ps vs) : RN c H (L2.upd F a (.tup vs)) (L2.upd H a (.tup vs)) (.val (.tup ps)) (.ref a) :=
  mk_tup (.of upd_same) (Rps.mono (Le.new _ (l.gone h)) _ _ r)
theorem rn_lst {ps : List P} {vs : List V} (l : Le F H) (h : H a = none) (r : Rps c F ps vs) : RN c H F (L2.upd H a (.lst vs)) (.own (.lst ps)) (.ref a) :=
  ⟨a, rfl, h, l.gone h, vs, upd_same, r⟩
/-- readable lists, tuples -/
theorem Rb.lst {ps : List P} (l : Le F H) (h : Rb c F H (.lst ps) v) : ∃ a vs, v = .ref a ∧ H a = some (.lst vs) ∧ Rps c F ps vs := by
  rcases h with h | ⟨a, o, e, h1, h2⟩
  · obtain ⟨a, vs, e, h1, h2⟩ := rp_lst h
    exact ⟨a, vs, e, l.lst h1, h2⟩
  · cases o with
    | lst qs =>
      cases h2
      obtain ⟨vs, h1, h3⟩ := h1
      exact ⟨a, vs, e, h1, h3⟩
    | dct t ks ws => cases h2
    | obj C ps => cases h2
theorem Rb.tup {ps : List P} (l : Le F H) (h : Rb c F H (.tup ps) v) : ∃ a vs, v = .ref a ∧ SqT c.K H a vs ∧ Rps c F ps vs ∧ Rp c F (.tup ps) v := by
  rcases h with h | ⟨a, o, e, h1, h2⟩
  · obtain ⟨a, vs, e, h1, h2⟩ := rp_tup h
    exact ⟨a, vs, e, l.sqT h1, h2, h⟩
  · cases o <;> cases h2
theorem Rb.int {i : Int} (h : Rb c F H (.int i) v) : v = .int i := by
  rcases h with h | ⟨a, o, e, h1, h2⟩
  · exact rp_int h
  · cases o <;> cases h2
theorem Rb.bl {i : Bool} (h : Rb c F H (.bl i) v) : v = .bl i := by
  rcases h with h | ⟨a, o, e, h1, h2⟩
  · exact rp_bl h
  · cases o <;> cases h2
theorem Rb.str {i : Str} (h : Rb c F H (.str i) v) : v = .str i := by
  rcases h with h | ⟨a, o, e, h1, h2⟩
  · exact rp_str h
  · cases o <;> cases h2
theorem Rb.non (h : Rb c F H .non v) : v = .non := by
  rcases h with h | ⟨a, o, e, h1, h2⟩
  · exact rp_non h
  · cases o <;> cases h2
theorem Rb.rpH (l : Le F H) (h : Rb c F H p v) : Rp c H p v := by
  rcases h with h | ⟨a, o, e, h1, h2⟩
  · exact Rp.mono l _ _ h
  · subst e; subst h2
    exact h1.rp l fun _ q => q
end

/-- o of two values, by the rule r -/
def OpV (c : Ctx) (r : R2) (o : P → P → Option Rv) : Prop := ∀ (F H : Hp) (p1 p2 : P) (x y : V) (res : Rv) (Q : VK), Le F H → Rb c F H p1 x → Rb c F H p2 y → o p1 p2 = some res →
  (∀ v F' H', Gr F H F' H' → RN c H F' H' res v → Q v H') → r x y H Q
def UnV (c : Ctx) (r : V → Hp → VK → Prop) (o : P → Option Rv) : Prop := ∀ (F H : Hp) (p : P) (x : V) (res : Rv) (Q : VK), Le F H → Rb c F H p x → o p = some res →
  (∀ v F' H', Gr F H F' H' → RN c H F' H' res v → Q v H') → r x H Q
def Rbs (c : Ctx) (F H : Hp) : List P → List V → Prop
  | [], vs => vs = []
  | p :: ps, vs => ∃ v r, vs = v :: r ∧ Rb c F H p v ∧ Rbs c F H ps r
def CalV (c : Ctx) (r : List V → Hp → VK → Prop) (o : List P → Option Rv) : Prop := ∀ (F H : Hp) (ps : List P) (xs : List V) (res : Rv) (Q : VK), Le F H → Rbs c F H ps xs → o ps = some res →
  (∀ v F' H', Gr F H F' H' → RN c H F' H' res v → Q v H') → r xs H Q

def outR (o : Option Rv) : M Rs := fun π => match o with
  | some res => .ok res.rs π
  | none => .bad
def op2 (o : P → P → Option Rv) (r1 r2 : Rs) : M Rs := fun π => match rdP π r1, rdP π r2 with
  | some p1, some p2 => outR (o p1 p2) π
  | _, _ => .bad
def op1 (o : P → Option Rv) (r1 : Rs) : M Rs := fun π => match rdP π r1 with
  | some p1 => outR (o p1) π
  | _ => .bad
def rds (π : En) : List Rs → Option (List P)
  | [] => some []
  | r :: rs => match rdP π r, rds π rs with
    | some p, some ps => some (p :: ps)
    | _, _ => none
def opN (o : List P → Option Rv) (rs : List Rs) : M Rs := fun π => match rds π rs with
  | some ps => outR (o ps) π
  | none => .bad
def binF (o : P → P → Option Rv) (f g : M Rs) : M Rs := fun π => (f π).bind fun r1 π1 => (g π1).bind fun r2 => op2 o r1 r2
def unF (o : P → Option Rv) (f : M Rs) : M Rs := fun π => (f π).bind fun r1 => op1 o r1
/-- an argument list, as it is read -/
def RRs (c : Ctx) (π0 : En) (H0 F : Hp) (π : En) (σ : L2.St) (H : Hp) : List Rs → List V → Prop
  | [], vs => vs = []
  | r :: rs, vs => ∃ v t, vs = v :: t ∧ RR c π0 H0 F π σ H r v ∧ RRs c π0 H0 F π σ H rs t
def tR (c : Ctx) (w : Wi) (f : M (List Rs)) : TA := fun σ H Q => ∃ F π, w.g σ F ∧ SR c F π σ H ∧ Po c w.W F π σ H (f π) (fun rs π' F' H' => ∀ vs, RRs c π H F' π' σ H' rs vs → Q vs H')
def nilF : M (List Rs) := fun π => .ok [] π
def consF (f : M Rs) (g : M (List Rs)) : M (List Rs) := fun π => (f π).bind fun r π1 => (g π1).bind fun rs π2 => .ok (r :: rs) π2
def calF (o : List P → Option Rv) (f : M (List Rs)) : M Rs := fun π => (f π).bind fun rs => opN o rs

section
variable {c : Ctx} {w : Wi} {W : WX} {F F' F1 H H' H1 H0 : Hp} {π π' π0 : En} {σ : L2.St} {r : Rs} {rs : List Rs} {rv : Rv} {v : V} {p : P} {o : O} {a : Addr} {i : Nat} {u : HO} {vs : List V} {ps : List P}
theorem RRs.step : ∀ {rs : List Rs} {vs : List V}, RRs c π0 H0 F π σ H rs vs → Tr F π σ H F' π' σ H' → RRs c π0 H0 F' π' σ H' rs vs
  | [], _, h, _ => h
  | r :: rs, _, h, t => by
    obtain ⟨v, l, e, h1, h2⟩ := h
    exact ⟨v, l, e, h1.step t, h2.step t⟩
theorem RRs.base {Fz : Hp} : ∀ {rs : List Rs} {vs : List V}, RRs c π0 H0 F π σ H rs vs → Tr Fz π' σ H' F1 π0 σ H0 → RRs c π' H' F π σ H rs vs
  | [], _, h, _ => h
  | r :: rs, _, h, t => by
    obtain ⟨v, l, e, h1, h2⟩ := h
    exact ⟨v, l, e, h1.base t, h2.base t⟩
theorem RRs.rbs (s : SR c F π σ H) : ∀ {rs : List Rs} {vs : List V} {ps : List P}, RRs c π0 H0 F π σ H rs vs → rds π rs = some ps → Rbs c F H ps vs
  | [], _, _, h, e => by cases e; exact h
  | r :: rs, _, _, h, e => by
    obtain ⟨v, l, e1, h1, h2⟩ := h
    unfold rds at e
    cases e2 : rdP π r with
    | none => rw [e2] at e; cases e
    | some p =>
      cases e3 : rds π rs with
      | none => rw [e2, e3] at e; cases e
      | some qs =>
        rw [e2, e3] at e
        cases e
        exact ⟨v, l, e1, h1.rb s e2, h2.rbs s e3⟩
theorem outR_post {res : Option Rv} {K : Rs → En → Hp → Hp → Prop} (s : SR c F π σ H) (po : Po c W F π σ H (outR res π) K) : ∃ rv, res = some rv ∧ ∀ v F' H', Gr F H F' H' → RN c H F' H' rv v → K rv.rs π F' H' ∧ RR c π H F' π σ H' rv.rs v := by
  cases res with
  | none => exact po.elim
  | some rv => exact ⟨rv, rfl, fun v F' H' g h => ⟨po F' H' g.tr (g.sr s), h.rr s g⟩⟩
end

section
variable {X : Cx} {c : Ctx} {w : Wi} {a b : Expr} {es : List Expr} {pos : Pos} {f g : M Rs} {fs : M (List Rs)}
theorem bin_weak {r : R2} {o : P → P → Option Rv} (hv : OpV c r o) : ∀ σ H Q, tE c w (binF o f g) σ H Q → tOp r (tE c w f) (tE c w g) σ H Q := fun σ H Q ⟨F, π, gg, s, po⟩ => by
  refine ⟨F, π, gg, s, (Po.split po).mono fun r1 π1 F1 H1 t1 s1 p1 x hx => ⟨F1, π1, w.mono _ _ t1.le gg, s1, (Po.split p1).mono fun r2 π2 F2 H2 t2 s2 p2 y hy => ?_⟩⟩
  unfold op2 at p2
  cases e1 : rdP π2 r1 with
  | none => rw [e1] at p2; exact p2.elim
  | some q1 =>
    cases e2 : rdP π2 r2 with
    | none => rw [e1, e2] at p2; exact p2.elim
    | some q2 =>
      rw [e1, e2] at p2
      obtain ⟨rv, e3, k⟩ := outR_post s2 p2
      refine hv F2 H2 q1 q2 x y rv Q s2.le ((hx.step t2).rb s2 e1) (hy.rb s2 e2) e3 fun v F3 H3 gr rn => ?_
      obtain ⟨k1, k2⟩ := k v F3 H3 gr rn
      exact k1 v (k2.base (t1.trans t2))
theorem p_bin {op : Operator} {r : R2} {o : P → P → Option Rv} (hop : OpR X (binaryOp op) r) (hv : OpV c r o) (ha : PE X a (tE c w f)) (hb : PE X b (tE c w g)) : PE X (.BinOp a op b pos) (tE c w (binF o f g)) :=
  pe_weak (pe_op hop ha hb) (bin_weak hv)
theorem p_cmp {op : CmpOp} {r : R2} {o : P → P → Option Rv} (hop : OpR X (compareOp op) r) (hv : OpV c r o) (ha : PE X a (tE c w f)) (hb : PE X b (tE c w g)) (hm : behindInMarks op b = false) : PE X (.Compare a [op] [b] pos) (tE c w (binF o f g)) :=
  pe_weak (pe_cmpR hop ha hb hm) (bin_weak hv)
theorem p_ix {r : R2} {o : P → P → Option Rv} (hop : IxR X r) (hv : OpV c r o) (ha : PE X a (tE c w f)) (hb : PE X b (tE c w g)) (hs : PlainIx b) : PE X (.Subscript a b pos) (tE c w (binF o f g)) :=
  pe_weak (pe_ix hop ha hb hs) (bin_weak hv)
theorem p_un {op : UnaryOp} {r : V → Hp → VK → Prop} {o : P → Option Rv} (hop : UnR X (unaryOp op) r) (hv : UnV c r o) (ha : PE X a (tE c w f)) : PE X (.UnaryOp op a pos) (tE c w (unF o f)) :=
  pe_weak (pe_un hop ha) fun σ H Q ⟨F, π, gg, s, po⟩ => by
    refine ⟨F, π, gg, s, (Po.split po).mono fun r1 π1 F1 H1 t1 s1 p1 x hx => ?_⟩
    unfold op1 at p1
    cases e1 : rdP π1 r1 with
    | none => rw [e1] at p1; exact p1.elim
    | some q1 =>
      rw [e1] at p1
      obtain ⟨rv, e3, k⟩ := outR_post s1 p1
      refine hv F1 H1 q1 x rv Q s1.le (hx.rb s1 e1) e3 fun v F3 H3 gr rn => ?_
      obtain ⟨k1, k2⟩ := k v F3 H3 gr rn
      exact k1 v (k2.base t1)
theorem pr_nil : PA X [] (tR c w nilF) := pa_weak pa_nil fun σ H Q ⟨F, π, gg, s, po⟩ => po F H .refl s [] rfl
theorem pr_cons (ha : PE X a (tE c w f)) (hr : PA X es (tR c w fs)) (hs : starEach (a :: es) X.env = (false, eval a X.env) :: starEach es X.env := by rfl) : PA X (a :: es) (tR c w (consF f fs)) :=
  pa_weak (pa_cons ha hr hs) fun σ H Q ⟨F, π, gg, s, po⟩ => by
    refine ⟨F, π, gg, s, (Po.split po).mono fun r1 π1 F1 H1 t1 s1 p1 x hx => ⟨F1, π1, w.mono _ _ t1.le gg, s1, (Po.split p1).mono fun rs π2 F2 H2 t2 s2 p2 xs hxs => ?_⟩⟩
    exact p2 F2 H2 .refl s2 (x :: xs) ⟨x, xs, rfl, hx.step t2, hxs.base t1⟩
theorem cal_weak {r : List V → Hp → VK → Prop} {o : List P → Option Rv} (hv : CalV c r o) : ∀ σ H Q, tE c w (calF o fs) σ H Q → tCB r (tR c w fs) σ H Q := fun σ H Q ⟨F, π, gg, s, po⟩ => by
  refine ⟨F, π, gg, s, (Po.split po).mono fun rs π1 F1 H1 t1 s1 p1 xs hx => ?_⟩
  unfold opN at p1
  cases e1 : rds π1 rs with
  | none => rw [e1] at p1; exact p1.elim
  | some qs =>
    rw [e1] at p1
    obtain ⟨rv, e3, k⟩ := outR_post s1 p1
    refine hv F1 H1 qs xs rv Q s1.le (hx.rbs s1 e1) e3 fun v F3 H3 gr rn => ?_
    obtain ⟨k1, k2⟩ := k v F3 H3 gr rn
    exact k1 v (k2.base t1)
end
end PV

namespace PV
open PySem L2

/-! ### statements -/
inductive Fl where
  | nx | bk | ct | rt (r : Rv)
def PoS {α : Type} (c : Ctx) (W : WX) (F : Hp) (π : En) (σ : L2.St) (H : Hp) (o : Out α) (K : α → En → Hp → L2.St → Hp → Prop) : Prop := match o with
  | .ok a π' => ∀ F' σ' H', Tr F π σ H F' π' σ' H' → SR c F' π' σ' H' → K a π' F' σ' H'
  | .exc C ps π' => ∀ F' σ' H' d, Tr F π σ H F' π' σ' H' → SR c F' π' σ' H' → XdOk c F' C ps d → W (.ref (c.cls C)) d σ' H'
  | .bad => False
/-- a result that is handed back -/
def RC (c : Ctx) (π0 : En) (σ0 : L2.St) (H0 F : Hp) (π : En) (σ : L2.St) (H : Hp) : Rv → V → Prop
  | .val p, v => Rp c F p v
  | .own o, v => ∃ a, v = .ref a ∧ F a = none ∧ ¬ Lent π σ a ∧ OwR c F H o a ∧ Fr0 π0 σ0 H0 a
def flK (c : Ctx) (D : Ends) (π0 : En) (σ0 : L2.St) (H0 : Hp) : Fl → En → Hp → L2.St → Hp → Prop
  | .nx, _, _, σ', H' => D.nx σ' H'
  | .bk, _, _, σ', H' => D.bk σ' H'
  | .ct, _, _, σ', H' => D.ct σ' H'
  | .rt r, π', F', σ', H' => ∀ v, RC c π0 σ0 H0 F' π' σ' H' r v → D.rt v H'
def tS (c : Ctx) (w : Ws) (f : M Fl) : TS := fun D σ H => ∃ F π, w.g F ∧ SR c F π σ H ∧ PoS c w.W F π σ H (f π) (flK c D π σ H)
section
variable {α β : Type} {c : Ctx} {W : WX} {F F1 F' H H1 H' : Hp} {π π1 π' : En} {σ σ1 σ' : L2.St} {o : Out α} {K K' : α → En → Hp → L2.St → Hp → Prop} {J : β → En → Hp → L2.St → Hp → Prop} {r : Rv} {v : V} {fl : Fl} {D : Ends}
theorem PoS.mono (h : PoS c W F π σ H o K) (k : ∀ a π' F' σ' H', Tr F π σ H F' π' σ' H' → SR c F' π' σ' H' → K a π' F' σ' H' → K' a π' F' σ' H') : PoS c W F π σ H o K' := by
  cases o with
  | ok a π' => exact fun F' σ' H' t s => k a π' F' σ' H' t s (h F' σ' H' t s)
  | exc C ps π' => exact h
  | bad => exact h
theorem PoS.from (h : PoS c W F π σ H o K) (t : Tr F π σ H F1 π1 σ1 H1) : PoS c W F1 π1 σ1 H1 o K := by
  cases o with
  | ok a π' => exact fun F' σ' H' t' s => h F' σ' H' (t.trans t') s
  | exc C ps π' => exact fun F' σ' H' d t' s => h F' σ' H' d (t.trans t') s
  | bad => exact h
/-- an expression, then a statement's part -/
theorem PoS.split {f : α → M β} (h : PoS c W F π σ H (o.bind f) J) : Po c W F π σ H o (fun a π1 F1 H1 => PoS c W F1 π1 σ H1 (f a π1) J) := by
  cases o with
  | ok a π' => exact fun F' H' t s => PoS.from h t
  | exc C ps π' => exact fun F' H' d t s => h F' σ H' d t s
  | bad => exact h
theorem PoS.splitS {f : α → M β} (h : PoS c W F π σ H (o.bind f) J) : PoS c W F π σ H o (fun a π1 F1 σ1 H1 => PoS c W F1 π1 σ1 H1 (f a π1) J) := by
  cases o with
  | ok a π' => exact fun F' σ' H' t s => PoS.from h t
  | exc C ps π' => exact h
  | bad => exact h
theorem RC.base {Fz : Hp} {π0 : En} {σ0 : L2.St} {H0 : Hp} (h : RC c π0 σ0 H0 F π σ H r v) (t : Tr Fz π' σ' H' F1 π0 σ0 H0) : RC c π' σ' H' F π σ H r v := by
  cases r with
  | val p => exact h
  | own o =>
    obtain ⟨a, e, h1, h2, h3, h4⟩ := h
    exact ⟨a, e, h1, h2, h3, h4.back t⟩
theorem flK.base {Fz : Hp} {π0 : En} {σ0 : L2.St} {H0 : Hp} (h : flK c D π' σ' H' fl π F σ H) (t : Tr Fz π' σ' H' F1 π0 σ0 H0) : flK c D π0 σ0 H0 fl π F σ H := by
  cases fl with
  | rt r => exact fun v q => h v (q.base t)
  | _ => exact h
end
def seqF (f g : M Fl) : M Fl := fun π => (f π).bind fun fl π1 => match fl with
  | .nx => g π1
  | fl => .ok fl π1
def skipF : M Fl := fun π => .ok .nx π
section
variable {X : Cx} {c : Ctx} {w : Ws} {st : Stmt} {rest body orelse : List Stmt} {e : Expr} {pos : Pos} {f g : M Fl} {fe : M Rs} {ft : M Bool}
theorem s_nil : PSs X [] (tS c w skipF) := pss_weak pss_nil fun D σ H ⟨F, π, gg, s, po⟩ => po F σ H .refl s
theorem s_cons (h1 : PS X st (tS c w f)) (h2 : PSs X rest (tS c w g)) : PSs X (st :: rest) (tS c w (seqF f g)) := pss_weak (pss_cons h1 h2) fun D σ H ⟨F, π, gg, s, po⟩ => by
  refine ⟨F, π, gg, s, (PoS.splitS po).mono fun fl π1 F1 σ1 H1 t s1 p1 => ?_⟩
  cases fl with
  | nx => exact ⟨F1, π1, w.mono _ _ t.le gg, s1, p1.mono fun fl π2 F2 σ2 H2 t2 s2 k => k.base t⟩
  | bk => exact p1 F1 σ1 H1 .refl s1
  | ct => exact p1 F1 σ1 H1 .refl s1
  | rt r => exact p1 F1 σ1 H1 .refl s1
theorem s_one (h1 : PS X st (tS c w f)) : PSs X [st] (tS c w f) := pss_weak (pss_one h1) fun D σ H h => h
theorem s_pass : PS X (.Pass pos) (tS c w skipF) := ps_weak ps_pass fun D σ H ⟨F, π, gg, s, po⟩ => po F σ H .refl s
/-! if -/
def ifF (ft : M Bool) (f g : M Fl) : M Fl := fun π => (ft π).bind fun b π1 => if b = true then f π1 else g π1
theorem s_if {cnd : Expr} (hc : PT X cnd (tT c w ft)) (ha : PSs X body (tS c w f)) (hb : PSs X orelse (tS c w g)) : PS X (.If cnd body orelse pos) (tS c w (ifF ft f g)) :=
  ps_weak (ps_if hc ha hb) fun D σ H ⟨F, π, gg, s, po⟩ => by
    refine ⟨F, π, gg, s, (PoS.split po).mono fun b π1 F1 H1 t s1 p1 => ?_⟩
    cases b with
    | true => exact ⟨F1, π1, w.mono _ _ t.le gg, s1, PoS.mono p1 fun fl π2 F2 σ2 H2 t2 s2 k => k.base t⟩
    | false => exact ⟨F1, π1, w.mono _ _ t.le gg, s1, PoS.mono p1 fun fl π2 F2 σ2 H2 t2 s2 k => k.base t⟩
/-! an expression dropped -/
def dropF (fe : M Rs) : M Fl := fun π => (fe π).bind fun _ π1 => .ok .nx π1
theorem s_expr (he : PE X e (tE c w fe)) (hs : swapsWith e none pos.line X.env = pure false := by rfl) : PS X (.Expr e pos) (tS c w (dropF fe)) :=
  ps_weak (ps_expr he hs) fun D σ H ⟨F, π, gg, s, po⟩ => ⟨F, π, gg, s, (PoS.split po).mono fun r π1 F1 H1 t s1 p1 v hr => p1 F1 σ H1 .refl s1⟩
/-! return -/
def retR (r : Rs) : M Fl := fun π => match r with
  | .val p => .ok (.rt (.val p)) π
  | .own o => .ok (.rt (.own o)) π
  | .bor i => match π[i]? with
    | some (.own o) => .ok (.rt (.own o)) π
    | some (.val p) => .ok (.rt (.val p)) π
    | _ => .bad
def retF (fe : M Rs) : M Fl := fun π => (fe π).bind retR
theorem lent_own {F H : Hp} {π : En} {σ : L2.St} {i : Nat} {o : O} {a : Addr} (s : SR c F π σ H) (h : π[i]? = some (.own o)) (e : σ[i]? = some (some (.ref a))) : ¬ Lent π σ a := fun ⟨j, o', h1, h2⟩ => by
  have := s.dj i j _ _ o o' a h rfl h1 rfl e h2
  subst this
  rw [h] at h1; cases h1
theorem s_ret (he : PE X e (tE c w fe)) : PS X (.Return (some e) pos) (tS c w (retF fe)) := ps_weak (ps_ret he) fun D σ H ⟨F, π, gg, s, po⟩ => by
  refine ⟨F, π, gg, s, ?_⟩
  unfold retF at po
  cases e0 : fe π with
  | bad => rw [e0] at po; exact po
  | exc C ps π1 => rw [e0] at po; exact fun F' H' d t s => po F' σ H' d t s
  | ok r π1 =>
    rw [e0] at po
    intro F1 H1 t s1 v hr
    cases r with
    | val p => exact po F1 σ H1 t s1 v hr
    | own o =>
      obtain ⟨a, e1, h1, h2, h3, h4⟩ := hr
      exact po F1 σ H1 t s1 v ⟨a, e1, h1, fun z => h2 z.own, h3, h4⟩
    | bor i =>
      have hr' : σ[i]? = some (some v) := hr
      simp only [Out.bind, retR] at po
      cases q : π1[i]? with
      | none => rw [q] at po; exact po.elim
      | some sl =>
        rw [q] at po
        cases sl with
        | no => exact po.elim
        | loan o => exact po.elim
        | val p =>
          obtain ⟨v', e1, h1⟩ := s1.vl i p q
          rw [hr'] at e1
          have e3 : v = v' := Option.some.inj (Option.some.inj e1)
          subst e3
          exact po F1 σ H1 t s1 v h1
        | own o =>
          obtain ⟨a, e1, h1, h2⟩ := s1.ow i _ o q rfl
          rw [hr'] at e1
          have e3 : v = .ref a := Option.some.inj (Option.some.inj e1)
          subst e3
          exact po F1 σ H1 t s1 _ ⟨a, rfl, h1, lent_own s1 q hr', h2, Fr0.back t (.inr ⟨i, _, o, q, rfl, hr'⟩)⟩
def retNF : M Fl := fun π => .ok (.rt (.val .non)) π
theorem s_retN : PS X (.Return none pos) (tS c w retNF) := ps_weak ps_retN fun D σ H ⟨F, π, gg, s, po⟩ => po F σ H .refl s .non (show Rp c F .non .non from mk_non)
end

/-! ### stores to slots -/
section
variable {c : Ctx} {F H : Hp} {π : En} {σ : L2.St} {i : Nat} {p : P} {v : V} {o : O} {a : Addr} {u : HO} {sl : Sl}
/-- slot i no longer matters: it gets the value x -/
theorem SR.set (s : SR c F π σ H) (hi : i < π.length) (hl : ∀ o, π[i]? ≠ some (.loan o)) (new : Sl) (x : Option V)
    (h1 : ∀ p, new = .val p → ∃ v, x = some v ∧ Rp c F p v) (h2 : ∀ o, new.ow = some o → ∃ a, x = some (.ref a) ∧ F a = none ∧ OwR c F H o a ∧ ¬ Own π σ a) (h3 : ∀ o, new ≠ .loan o) :
    SR c F (π.set i new) (σ.set i x) H ∧ ∀ F0 π0 σ0 H0, Tr F0 π0 σ0 H0 F π σ H → (∀ a, x = some (.ref a) → (∃ o, new.ow = some o) → Fr0 π0 σ0 H0 a) → Tr F0 π0 σ0 H0 F (π.set i new) (σ.set i x) H := by
  have hσ : i < σ.length := by rw [← s.len]; exact hi
  have gp : ∀ j, (π.set i new)[j]? = if j = i then some new else π[j]? := fun j => by
    by_cases z : j = i
    · subst z; rw [List.getElem?_set_self hi, if_pos rfl]
    · rw [List.getElem?_set_ne (Ne.symm z), if_neg z]
  have gs : ∀ j, (σ.set i x)[j]? = if j = i then some x else σ[j]? := fun j => by
    by_cases z : j = i
    · subst z; rw [List.getElem?_set_self hσ, if_pos rfl]
    · rw [List.getElem?_set_ne (Ne.symm z), if_neg z]
  refine ⟨⟨s.le, by simpa using s.len, fun j q e => ?_, fun j sl o e1 e2 => ?_, fun j k sl sl' o1 o2 b e1 e2 e3 e4 e5 e6 => ?_⟩, fun F0 π0 σ0 H0 t hf => ⟨t.le, t.keep, t.new, fun b ⟨j, sl, o, e1, e2, e3⟩ => ?_, fun j o e => ?_⟩⟩
  · rw [gp] at e; rw [gs]
    by_cases z : j = i
    · rw [if_pos z] at e ⊢
      obtain ⟨v, e1, h⟩ := h1 q (Option.some.inj e)
      exact ⟨v, by rw [e1], h⟩
    · rw [if_neg z] at e ⊢
      exact s.vl j q e
  · rw [gp] at e1; rw [gs]
    by_cases z : j = i
    · rw [if_pos z] at e1 ⊢
      cases e1
      obtain ⟨a, e3, h4, h5, _⟩ := h2 o e2
      exact ⟨a, by rw [e3], h4, h5⟩
    · rw [if_neg z] at e1 ⊢
      exact s.ow j sl o e1 e2
  · rw [gp] at e1 e3; rw [gs] at e5 e6
    by_cases z : j = i
    · by_cases z2 : k = i
      · exact z.trans z2.symm
      · rw [if_pos z] at e1 e5
        rw [if_neg z2] at e3 e6
        cases e1
        obtain ⟨a, e7, _, _, h8⟩ := h2 o1 e2
        cases e5
        cases e7
        exact absurd ⟨k, sl', o2, e3, e4, e6⟩ h8
    · by_cases z2 : k = i
      · rw [if_pos z2] at e3 e6
        rw [if_neg z] at e1 e5
        cases e3
        obtain ⟨a, e7, _, _, h8⟩ := h2 o2 e4
        cases e6
        cases e7
        exact absurd ⟨j, sl, o1, e1, e2, e5⟩ h8
      · rw [if_neg z] at e1 e5
        rw [if_neg z2] at e3 e6
        exact s.dj j k sl sl' o1 o2 b e1 e2 e3 e4 e5 e6
  · rw [gp] at e1; rw [gs] at e3
    by_cases z : j = i
    · rw [if_pos z] at e1 e3
      cases e1
      exact hf b (Option.some.inj e3) ⟨o, e2⟩
    · rw [if_neg z] at e1 e3
      exact t.own b ⟨j, sl, o, e1, e2, e3⟩
  · obtain ⟨h5, o', h6⟩ := t.ln j o e
    have ne : j ≠ i := fun z => hl o' (by rw [← z]; exact h6)
    rw [gs, gp, if_neg ne, if_neg ne]
    exact ⟨h5, o', h6⟩
/-- the object of slot i is written -/
def Sl.put (o : O) : Sl → Sl
  | .own _ => .own o
  | .loan _ => .loan o
  | s => s
theorem SR.put {o' : O} (s : SR c F π σ H) (hi : π[i]? = some sl) (ho : sl.ow = some o) (hσ : σ[i]? = some (some (.ref a))) (hnew : OwR c F (L2.upd H a u) o' a) :
    SR c F (π.set i (sl.put o')) σ (L2.upd H a u) ∧ Tr F π σ H F (π.set i (sl.put o')) σ (L2.upd H a u) := by
  obtain ⟨b, e1, hF, hO⟩ := s.ow i _ o hi ho
  rw [hσ] at e1
  have e2 : a = b := by injection Option.some.inj (Option.some.inj e1)
  subst e2
  have hlt : i < π.length := (List.getElem?_eq_some_iff.mp hi).1
  have hput : (sl.put o').ow = some o' := by cases sl <;> first | rfl | cases ho
  have gp : ∀ j, (π.set i (sl.put o'))[j]? = if j = i then some (sl.put o') else π[j]? := fun j => by
    by_cases z : j = i
    · subst z; rw [List.getElem?_set_self hlt, if_pos rfl]
    · rw [List.getElem?_set_ne (Ne.symm z), if_neg z]
  have back : ∀ (j : Nat) (sl2 : Sl) (o2 : O), (π.set i (sl.put o'))[j]? = some sl2 → sl2.ow = some o2 → ∃ sl3 o3, π[j]? = some sl3 ∧ sl3.ow = some o3 := fun j sl2 o2 e1 e2 => by
    rw [gp] at e1
    by_cases z : j = i
    · subst z; exact ⟨sl, o, hi, ho⟩
    · rw [if_neg z] at e1; exact ⟨sl2, o2, e1, e2⟩
  refine ⟨⟨s.le.updR _ hF, by simpa using s.len, fun j q e => ?_, fun j sl2 o2 e1 e2 => ?_, fun j k sl1 sl2 o1 o2 b e1 e2 e3 e4 e5 e6 => ?_⟩, ⟨Le.refl F, fun b x e n => ?_, fun b h => .inl h, fun b ⟨j, sl2, o2, e1, e2, e3⟩ => ?_, fun j o2 e => ?_⟩⟩
  · rw [gp] at e
    by_cases z : j = i
    · rw [if_pos z] at e
      rw [Option.some.inj e] at hput
      cases hput
    · rw [if_neg z] at e
      exact s.vl j q e
  · rw [gp] at e1
    by_cases z : j = i
    · rw [if_pos z] at e1
      cases e1
      rw [hput] at e2
      cases e2
      subst z
      exact ⟨a, hσ, hF, hnew⟩
    · rw [if_neg z] at e1
      obtain ⟨b, e3, h1, h2⟩ := s.ow j sl2 o2 e1 e2
      have nb : b ≠ a := fun q => z (s.dj j i _ _ o2 o b e1 e2 hi ho e3 (by rw [q]; exact hσ))
      exact ⟨b, e3, h1, h2.step (Le.refl F) fun x q => by rw [upd_ne nb]; exact q⟩
  · obtain ⟨s3, o3, f1, f2⟩ := back j sl1 o1 e1 e2
    obtain ⟨s4, o4, f3, f4⟩ := back k sl2 o2 e3 e4
    exact s.dj j k s3 s4 o3 o4 b f1 f2 f3 f4 e5 e6
  · have nb : b ≠ a := fun q => n ⟨i, sl, o, hi, ho, by rw [q]; exact hσ⟩
    rw [upd_ne nb]; exact e
  · obtain ⟨s3, o3, f1, f2⟩ := back j sl2 o2 e1 e2
    exact .inr ⟨j, s3, o3, f1, f2, e3⟩
  · refine ⟨rfl, ?_⟩
    rw [gp]
    by_cases z : j = i
    · subst z
      rw [hi] at e
      cases e
      exact ⟨o', by rw [if_pos rfl]; rfl⟩
    · exact ⟨o2, by rw [if_neg z]; exact e⟩
end
def setR (i : Nat) (r : Rs) : M Fl := fun π => match π[i]? with
  | none => .bad
  | some (.loan _) => .bad
  | some _ => match r with
    | .val p => .ok .nx (π.set i (.val p))
    | .own o => .ok .nx (π.set i (.own o))
    | .bor _ => .bad
def setF (i : Nat) (fe : M Rs) : M Fl := fun π => (fe π).bind (setR i)
section
variable {X : Cx} {c : Ctx} {w : Ws} {e : Expr} {pos pos' : Pos} {fe : M Rs}
theorem set_post {W : WX} {F H F0 H0 : Hp} {π π0 : En} {σ : L2.St} {i : Nat} {r : Rs} {v : V} {K : Fl → En → Hp → L2.St → Hp → Prop} (s : SR c F π σ H) (hr : RR c π0 H0 F π σ H r v) (t : Tr F0 π0 σ H0 F π σ H)
    (po : PoS c W F0 π0 σ H0 (setR i r π) K) : ∃ π', K .nx π' F (σ.set i (some v)) H := by
  simp only [setR] at po
  cases q : π[i]? with
  | none => rw [q] at po; exact po.elim
  | some sl =>
    rw [q] at po
    have hi : i < π.length := (List.getElem?_eq_some_iff.mp q).1
    have main : (∀ o, sl ≠ .loan o) → PoS c W F0 π0 σ H0 (match r with | .val p => .ok .nx (π.set i (.val p)) | .own o => .ok .nx (π.set i (.own o)) | .bor _ => Out.bad) K → ∃ π', K .nx π' F (σ.set i (some v)) H := fun hn po => by
      have hl : ∀ o, π[i]? ≠ some (.loan o) := fun o z => by rw [q] at z; exact hn o (Option.some.inj z)
      cases r with
      | val p =>
        obtain ⟨s2, t2⟩ := s.set hi hl (.val p) (some v) (fun p' e => by cases e; exact ⟨v, rfl, hr⟩) (fun o e => by cases e) (fun o e => by cases e)
        exact ⟨_, po F _ H (t2 _ _ _ _ t fun a e ⟨o, h⟩ => by cases h) s2⟩
      | own o =>
        obtain ⟨a, rfl, h1, h2, h3, h4⟩ := hr
        obtain ⟨s2, t2⟩ := s.set hi hl (.own o) (some (.ref a)) (fun p' e => by cases e) (fun o e => by cases e; exact ⟨a, rfl, h1, h3, h2⟩) (fun o e => by cases e)
        exact ⟨_, po F _ H (t2 _ _ _ _ t fun b e _ => by cases e; exact h4) s2⟩
      | bor j => exact po.elim
    cases sl with
    | loan o => exact po.elim
    | no => exact main (fun o z => by cases z) po
    | val p => exact main (fun o z => by cases z) po
    | own o => exact main (fun o z => by cases z) po
theorem s_set {i : Nat} {x : Str} (hN : X.N.Nodup) (hi : X.N[i]? = some x) (hx : Loc X.env.scope x) (he : PE X e (tE c w fe)) (hs : swapsWith e (some (.Name x pos')) pos.line X.env = pure false := by rfl)
    (hf : X.fn x = true ∨ X.env.scope.names.lookup x = some .local := by first | exact .inl rfl | exact .inr rfl | assumption) : PS X (.Assign [.Name x pos'] e pos) (tS c w (setF i fe)) :=
  ps_weak (ps_set hN hi hx he hs hf) fun D σ H ⟨F, π, gg, s, po⟩ => by
    refine ⟨F, π, gg, s, ?_⟩
    unfold setF at po
    cases e0 : fe π with
    | bad => rw [e0] at po; exact po
    | exc C ps π1 => rw [e0] at po; exact fun F' H' d t s => po F' σ H' d t s
    | ok r π1 =>
      rw [e0] at po
      intro F1 H1 t s1 v hr
      obtain ⟨π', k⟩ := set_post s1 hr t po
      exact k
end
end PV

namespace PV
open PySem L2 PyProof.Rows

/-! ### defs -/
/-- the arguments behind a call: what was lent, as it now is -/
def backA (args : List Sl) (π' : En) : List Sl := args.mapIdx fun i a => match a with
  | .loan o => (π'[i]?).getD (.loan o)
  | a => a
def fnF (n : Nat) (body : M Fl) (args : List Sl) : Out Rv := match body (args ++ List.replicate n .no) with
  | .ok (.rt r) π' => .ok r (backA args π')
  | .ok .nx π' => .ok (.val .non) (backA args π')
  | .ok _ _ => .bad
  | .exc C ps π' => .exc C ps (backA args π')
  | .bad => .bad
abbrev FN := List Sl → Out Rv
def PoF (c : Ctx) (F : Hp) (πs : List Sl) (vs : List V) (H : Hp) (o : Out Rv) (Q : VK) (E : XK) : Prop := match o with
  | .ok r πs' => ∀ v F' H', Tr F πs (vs.map some) H F' πs' (vs.map some) H' → SR c F' πs' (vs.map some) H' → RC c πs (vs.map some) H F' πs' (vs.map some) H' r v → Q v H'
  | .exc C ps πs' => ∀ F' H' d, Tr F πs (vs.map some) H F' πs' (vs.map some) H' → SR c F' πs' (vs.map some) H' → XdOk c F' C ps d → E (.ref (c.cls C)) d H'
  | .bad => False
def noOwn (πs : List Sl) : Prop := ∀ (i : Nat) (o : O), πs[i]? ≠ some (.own o)
def spF (c : Ctx) (n : Nat) (Fn : FN) : Sp := fun vs H Q E => ∃ F πs, πs.length = n ∧ noOwn πs ∧ SR c F πs (vs.map some) H ∧ PoF c F πs vs H (Fn πs) Q E

section
variable {c : Ctx} {F F' H H' : Hp} {π π' : En} {σ σ' : L2.St} {vs : List V} {n : Nat} {a : Addr}
theorem get_ext {α : Type} {l : List α} {m : Nat} {z : α} {i : Nat} {x : α} (h : (l ++ List.replicate m z)[i]? = some x) : l[i]? = some x ∨ x = z := by
  by_cases hi : i < l.length
  · rw [List.getElem?_append_left hi] at h; exact .inl h
  · rw [List.getElem?_append_right (by omega), List.getElem?_replicate] at h
    split at h
    · exact .inr (Option.some.inj h).symm
    · cases h
theorem get_ext' {α : Type} {l : List α} {m : Nat} {z : α} {i : Nat} {x : α} (h : l[i]? = some x) : (l ++ List.replicate m z)[i]? = some x := by
  rw [List.getElem?_append_left (List.getElem?_eq_some_iff.mp h).1]; exact h
theorem own_ext : Own (π ++ List.replicate n .no) (σ ++ List.replicate n none) a ↔ Own π σ a := by
  constructor
  · rintro ⟨i, s, o, e1, e2, e3⟩
    rcases get_ext e1 with h | h
    · rcases get_ext e3 with h3 | h3
      · exact ⟨i, s, o, h, e2, h3⟩
      · cases h3
    · subst h; cases e2
  · rintro ⟨i, s, o, e1, e2, e3⟩
    exact ⟨i, s, o, get_ext' e1, e2, get_ext' e3⟩
theorem SR.ext (s : SR c F π σ H) (n : Nat) : SR c F (π ++ List.replicate n .no) (σ ++ List.replicate n none) H where
  le := s.le
  len := by simp [s.len]
  vl := fun i p e => by
    rcases get_ext e with h | h
    · obtain ⟨v, e1, h1⟩ := s.vl i p h
      exact ⟨v, get_ext' e1, h1⟩
    · cases h
  ow := fun i sl o e1 e2 => by
    rcases get_ext e1 with h | h
    · obtain ⟨b, e3, h1⟩ := s.ow i sl o h e2
      exact ⟨b, get_ext' e3, h1⟩
    · subst h; cases e2
  dj := fun i j s1 s2 o1 o2 b e1 e2 e3 e4 e5 e6 => by
    rcases get_ext e1 with h1 | h1
    · rcases get_ext e3 with h3 | h3
      · rcases get_ext e5 with h5 | h5
        · rcases get_ext e6 with h6 | h6
          · exact s.dj i j s1 s2 o1 o2 b h1 e2 h3 e4 h5 h6
          · cases h6
        · cases h5
      · subst h3; cases e4
    · subst h1; cases e2
theorem back_get {args : List Sl} {i : Nat} : (backA args π')[i]? = (args[i]?).map fun a => match a with
    | .loan o => (π'[i]?).getD (.loan o)
    | a => a := by
  unfold backA
  rw [List.getElem?_mapIdx]
/-- what is true behind a def's body, of its arguments -/
theorem back_ok {πs : List Sl} (hno : noOwn πs) (s : SR c F πs σ H) (t : Tr F (πs ++ List.replicate n .no) (σ ++ List.replicate n none) H F' π' σ' H') (s' : SR c F' π' σ' H') :
    Tr F πs σ H F' (backA πs π') σ H' ∧ SR c F' (backA πs π') σ H' ∧ (∀ a, Lent (backA πs π') σ a → Lent π' σ' a) := by
  have lt : ∀ (i : Nat) (sl : Sl) (o : O), (backA πs π')[i]? = some sl → sl.ow = some o → ∃ o0, πs[i]? = some (.loan o0) ∧ sl = .loan o ∧ π'[i]? = some (.loan o) ∧ σ'[i]? = σ[i]? := fun i sl o e1 e2 => by
    rw [back_get] at e1
    cases q : πs[i]? with
    | none => rw [q] at e1; cases e1
    | some a =>
      rw [q] at e1
      cases a with
      | no => cases e1; cases e2
      | val p => cases e1; cases e2
      | own o' => exact absurd q (hno i o')
      | loan o' =>
        obtain ⟨e3, o2, e4⟩ := t.ln i o' (get_ext' q)
        have e5 : (π'[i]?).getD (Sl.loan o') = sl := Option.some.inj e1
        rw [e4] at e5
        have e6 : Sl.loan o2 = sl := e5
        subst e6
        have e7 : o2 = o := Option.some.inj e2
        subst e7
        refine ⟨o', rfl, rfl, e4, ?_⟩
        rw [e3]
        exact List.getElem?_append_left (by rw [← s.len]; exact (List.getElem?_eq_some_iff.mp q).1)
  have ownb : ∀ a, Own (backA πs π') σ a → Own π' σ' a := fun a ⟨i, sl, o, e1, e2, e3⟩ => by
    obtain ⟨o0, h1, h2, h3, h4⟩ := lt i sl o e1 e2
    exact ⟨i, _, o, h3, rfl, by rw [h4]; exact e3⟩
  refine ⟨⟨t.le, fun a o h k => t.keep a o h fun z => k (own_ext.mp z), fun a h => (t.new a h).imp id (Or.imp id own_ext.mp), fun a h => (t.own a (ownb a h)).imp id own_ext.mp, fun i o e => ⟨rfl, ?_⟩⟩,
    ⟨s'.le, by unfold backA; rw [List.length_mapIdx]; exact s.len, fun i p e => ?_, fun i sl o e1 e2 => ?_, fun i j s1 s2 o1 o2 b e1 e2 e3 e4 e5 e6 => ?_⟩, fun a ⟨i, o, e1, e2⟩ => ?_⟩
  · obtain ⟨_, o2, e4⟩ := t.ln i o (get_ext' e)
    exact ⟨o2, by rw [back_get, e]; show some ((π'[i]?).getD _) = _; rw [e4] <;> rfl⟩
  · rw [back_get] at e
    cases q : πs[i]? with
    | none => rw [q] at e; cases e
    | some a =>
      rw [q] at e
      cases a with
      | no => cases e
      | own o' => cases e
      | loan o' =>
        obtain ⟨_, o2, e4⟩ := t.ln i o' (get_ext' q)
        have e5 : (π'[i]?).getD (Sl.loan o') = .val p := Option.some.inj e
        rw [e4] at e5
        cases e5
      | val p' =>
        cases e
        obtain ⟨v, e1, h1⟩ := s.vl i p q
        exact ⟨v, e1, Rp.mono t.le _ _ h1⟩
  · obtain ⟨o0, h1, h2, h3, h4⟩ := lt i sl o e1 e2
    obtain ⟨b, e3, h5, h6⟩ := s'.ow i _ o h3 rfl
    exact ⟨b, by rw [← h4]; exact e3, h5, h6⟩
  · obtain ⟨o3, h1, _⟩ := lt i s1 o1 e1 e2
    obtain ⟨o4, h2, _⟩ := lt j s2 o2 e3 e4
    exact s.dj i j _ _ o3 o4 b h1 rfl h2 rfl e5 e6
  · obtain ⟨o0, h1, h2, h3, h4⟩ := lt i _ o e1 rfl
    exact ⟨i, o, h3, by rw [h4]; exact e2⟩
end
/-- nothing is known of F besides -/
def wE (E : XK) : Ws := ⟨fun cls d _ H => E cls d H, fun _ => True, fun _ _ _ h => h⟩
section
variable {PP : Program} {ww : World} {K : PySem.W.Frag} {mg : Str → Option Value} {base : Heap} {c : Ctx}
theorem fn_ok {x qual : Str} {st : Stmt} {f : Addr} {fd : FuncData} {N ps : List Str} {k : Nat} {body : M Fl} (Fd : Fun K x qual st f fd) (S : FnScope N ps (defScope st))
    (hb : ∀ (cdv : Value) (A : Around) (outer : List Env) (s : Shared) (H : Hp) (E : XK), Room k (A.deeper (envOfC qual (defScope st) s.heap.objs.size f cdv)) →
      PSs (cxOf (L2.CX PP ww) PP ww K mg base N qual (defScope st) f cdv A outer s H E) (defBody st) (tS c (wE E) body)) :
    FnOk PP ww K mg base (L2.CX PP ww) (k + 1) f fd ps (spF c ps.length (fnF (N.length - ps.length) body)) := by
  refine Fd.okX S (fun vs H Q E h => ?_) (fun cdv A outer s H vs Q E hr h => ⟨_, hb cdv A outer s H E hr, ?_⟩)
  · obtain ⟨F, πs, hl, _, sr, _⟩ := h
    have := sr.len
    simp at this
    omega
  · obtain ⟨F, πs, hl, hno, sr, po⟩ := h
    have hvl : vs.length = ps.length := by
      have := sr.len
      simp at this
      omega
    have hst : L2.start N vs = vs.map some ++ List.replicate (N.length - ps.length) none := by unfold L2.start; rw [hvl]
    rw [hst]
    refine ⟨F, πs ++ List.replicate (N.length - ps.length) .no, trivial, sr.ext _, ?_⟩
    unfold fnF at po
    cases e : body (πs ++ List.replicate (N.length - ps.length) .no) with
    | bad => rw [e] at po; exact po
    | exc C qs π' =>
      rw [e] at po
      intro F' σ' H' d t s' xd
      obtain ⟨h1, h2, _⟩ := back_ok hno sr t s'
      exact po F' H' d h1 h2 xd
    | ok fl π' =>
      rw [e] at po
      cases fl with
      | bk => exact po.elim
      | ct => exact po.elim
      | nx =>
        intro F' σ' H' t s'
        obtain ⟨h1, h2, _⟩ := back_ok hno sr t s'
        exact po .non F' H' h1 h2 (show Rp c F' .non .non from mk_non)
      | rt r =>
        intro F' σ' H' t s' v hr'
        obtain ⟨h1, h2, h3⟩ := back_ok hno sr t s'
        refine po v F' H' h1 h2 ?_
        cases r with
        | val p => exact hr'
        | own o =>
          obtain ⟨a, e1, q1, q2, q3, q4⟩ := hr'
          exact ⟨a, e1, q1, fun z => q2 (h3 a z), q3, q4.imp id own_ext.mp⟩
end

/-! ### calls -/
def loadR (π : En) : Rs → Option Sl
  | .val p => some (.val p)
  | .own _ => none
  | .bor i => match π[i]? with
    | some (.own o) => some (.loan o)
    | some (.loan o) => some (.loan o)
    | some (.val p) => some (.val p)
    | _ => none
def loads (π : En) : List Rs → Option (List Sl)
  | [] => some []
  | r :: rs => match loadR π r, loads π rs with
    | some s, some ss => some (s :: ss)
    | _, _ => none
def borIx : Rs → Option Nat
  | .bor i => some i
  | _ => none
def findL (j : Nat) : List Rs → List Sl → Option O
  | .bor i :: rs, .loan o :: as => if i = j then some o else findL j rs as
  | _ :: rs, _ :: as => findL j rs as
  | _, _ => none
def storeA (π : En) (rs : List Rs) (as : List Sl) : En := π.mapIdx fun j sl => match findL j rs as with
  | some o => sl.put o
  | none => sl
def callR (Fn : FN) (rs : List Rs) : M Rs := fun π => match loads π rs with
  | none => .bad
  | some as => if (rs.filterMap borIx).Nodup then (match Fn as with
      | .ok r as' => .ok r.rs (storeA π rs as')
      | .exc C ps as' => .exc C ps (storeA π rs as')
      | .bad => .bad) else .bad
def callF (Fn : FN) (fa : M (List Rs)) : M Rs := fun π => (fa π).bind (callR Fn)
section
variable {c : Ctx} {F F' F0 H H' H0 : Hp} {π π' π0 : En} {σ σ' : L2.St} {rs : List Rs} {vs : List V} {as as' : List Sl} {n : Nat} {a : Addr} {W : WX}
/-- each argument, its slot and its value -/
theorem load_at : ∀ {rs : List Rs} {vs : List V} {as : List Sl}, RRs c π0 H0 F π σ H rs vs → loads π rs = some as → ∀ (k : Nat) (sl : Sl), as[k]? = some sl → ∃ r v, rs[k]? = some r ∧ vs[k]? = some v ∧ RR c π0 H0 F π σ H r v ∧ loadR π r = some sl
  | [], _, _, h, e, k, sl, hk => by cases e; simp at hk
  | r :: rs, _, _, h, e, k, sl, hk => by
    obtain ⟨v, l, rfl, h1, h2⟩ := h
    unfold loads at e
    cases e1 : loadR π r with
    | none => rw [e1] at e; cases e
    | some s =>
      cases e2 : loads π rs with
      | none => rw [e1, e2] at e; cases e
      | some ss =>
        rw [e1, e2] at e
        cases e
        cases k with
        | zero => simp at hk; subst hk; exact ⟨r, v, rfl, rfl, h1, e1⟩
        | succ k =>
          obtain ⟨r', v', q1, q2, q3, q4⟩ := load_at h2 e2 k sl (by simpa using hk)
          exact ⟨r', v', by simpa using q1, by simpa using q2, q3, q4⟩
theorem load_len : ∀ {rs : List Rs} {as : List Sl}, loads π rs = some as → as.length = rs.length
  | [], _, e => by cases e; rfl
  | r :: rs, _, e => by
    unfold loads at e
    cases e1 : loadR π r with
    | none => rw [e1] at e; cases e
    | some s =>
      cases e2 : loads π rs with
      | none => rw [e1, e2] at e; cases e
      | some ss =>
        rw [e1, e2] at e
        cases e
        simp [load_len e2]
theorem rrs_len : ∀ {rs : List Rs} {vs : List V}, RRs c π0 H0 F π σ H rs vs → vs.length = rs.length
  | [], _, h => by rw [show _ = [] from h]; rfl
  | r :: rs, _, h => by
    obtain ⟨v, l, rfl, _, h2⟩ := h
    simp [rrs_len h2]
theorem loadR_loan {r : Rs} {o : O} (h : loadR π r = some (.loan o)) : ∃ i sl, r = .bor i ∧ π[i]? = some sl ∧ sl.ow = some o := by
  cases r with
  | val p => cases h
  | own o => cases h
  | bor i =>
    simp only [loadR] at h
    cases q : π[i]? with
    | none => rw [q] at h; cases h
    | some sl =>
      rw [q] at h
      cases sl with
      | no => cases h
      | val p => cases h
      | own o' => cases h; exact ⟨i, _, rfl, q, rfl⟩
      | loan o' => cases h; exact ⟨i, _, rfl, q, rfl⟩
theorem load_noOwn (h : RRs c π0 H0 F π σ H rs vs) (e : loads π rs = some as) : noOwn as := fun k o q => by
  obtain ⟨r, v, _, _, _, h4⟩ := load_at h e k _ q
  cases r with
  | val p => cases h4
  | own o => cases h4
  | bor i =>
    simp only [loadR] at h4
    cases q : π[i]? with
    | none => rw [q] at h4; cases h4
    | some sl =>
      rw [q] at h4
      cases sl <;> cases h4
theorem nodup_bor : ∀ {rs : List Rs}, (rs.filterMap borIx).Nodup → ∀ (k k' i : Nat), rs[k]? = some (.bor i) → rs[k']? = some (.bor i) → k = k'
  | [], _, k, k', i, h, _ => by simp at h
  | r :: rs, hn, k, k', i, h1, h2 => by
    have mem : ∀ {m : Nat}, rs[m]? = some (.bor i) → i ∈ rs.filterMap borIx := fun {m} q => List.mem_filterMap.mpr ⟨_, List.mem_of_getElem? q, rfl⟩
    cases k with
    | zero =>
      cases k' with
      | zero => rfl
      | succ k' =>
        simp at h1; subst h1
        rw [List.filterMap_cons_some (show borIx (.bor i) = some i from rfl), List.nodup_cons] at hn
        exact absurd (mem (by simpa using h2)) hn.1
    | succ k =>
      cases k' with
      | zero =>
        simp at h2; subst h2
        rw [List.filterMap_cons_some (show borIx (.bor i) = some i from rfl), List.nodup_cons] at hn
        exact absurd (mem (by simpa using h1)) hn.1
      | succ k' =>
        have hn' : (rs.filterMap borIx).Nodup := by
          cases e : borIx r with
          | none => rw [List.filterMap_cons_none e] at hn; exact hn
          | some x => rw [List.filterMap_cons_some e, List.nodup_cons] at hn; exact hn.2
        rw [nodup_bor hn' k k' i (by simpa using h1) (by simpa using h2)]
theorem load_sr (s : SR c F π σ H) (h : RRs c π0 H0 F π σ H rs vs) (e : loads π rs = some as) (hn : (rs.filterMap borIx).Nodup) : SR c F as (vs.map some) H ∧ ∀ a, Own as (vs.map some) a → Own π σ a := by
  have ln : ∀ (k : Nat) (sl : Sl) (o : O), as[k]? = some sl → sl.ow = some o → ∃ i sl' v, sl = .loan o ∧ rs[k]? = some (.bor i) ∧ π[i]? = some sl' ∧ sl'.ow = some o ∧ vs[k]? = some v ∧ σ[i]? = some (some v) := fun k sl o e1 e2 => by
    obtain ⟨r, v, q1, q2, q3, q4⟩ := load_at h e k sl e1
    cases sl with
    | no => cases e2
    | val p => cases e2
    | own o' => exact absurd e1 (load_noOwn h e k o')
    | loan o' =>
      cases e2
      obtain ⟨i, sl', rfl, q5, q6⟩ := loadR_loan q4
      exact ⟨i, sl', v, rfl, q1, q5, q6, q2, q3⟩
  refine ⟨⟨s.le, by simp [load_len e, rrs_len h], fun k p e1 => ?_, fun k sl o e1 e2 => ?_, fun k k' s1 s2 o1 o2 b e1 e2 e3 e4 e5 e6 => ?_⟩, fun b ⟨k, sl, o, e1, e2, e3⟩ => ?_⟩
  · obtain ⟨r, v, q1, q2, q3, q4⟩ := load_at h e k _ e1
    refine ⟨v, by simp [q2], ?_⟩
    cases r with
    | val p' => cases q4; exact q3
    | own o => cases q4
    | bor i =>
      simp only [loadR] at q4
      have q3' : σ[i]? = some (some v) := q3
      cases q : π[i]? with
      | none => rw [q] at q4; cases q4
      | some sl =>
        rw [q] at q4
        cases sl with
        | no => cases q4
        | own o' => cases q4
        | loan o' => cases q4
        | val p' =>
          cases q4
          obtain ⟨v', e5, h5⟩ := s.vl i p q
          rw [q3'] at e5
          cases e5
          exact h5
  · obtain ⟨i, sl', v, _, q1, q2, q3, q4, q5⟩ := ln k sl o e1 e2
    obtain ⟨b, e3, h1, h2⟩ := s.ow i sl' o q2 q3
    rw [q5] at e3
    cases e3
    exact ⟨b, by simp [q4], h1, h2⟩
  · obtain ⟨i, sl', v, _, q1, q2, q3, q4, q5⟩ := ln k s1 o1 e1 e2
    obtain ⟨j, sl2, v2, _, p1, p2, p3, p4, p5⟩ := ln k' s2 o2 e3 e4
    have r1 : v = .ref b := by simp [q4] at e5; exact e5
    have r2 : v2 = .ref b := by simp [p4] at e6; exact e6
    subst r1 r2
    have := s.dj i j _ _ o1 o2 b q2 q3 p2 p3 q5 p5
    subst this
    exact nodup_bor hn k k' i q1 p1
  · obtain ⟨i, sl', v, _, q1, q2, q3, q4, q5⟩ := ln k sl o e1 e2
    have r1 : v = .ref b := by simp [q4] at e3; exact e3
    subst r1
    exact ⟨i, sl', o, q2, q3, q5⟩
theorem findL_some : ∀ {rs : List Rs} {as : List Sl} {j : Nat} {o : O}, findL j rs as = some o → ∃ k : Nat, rs[k]? = some (Rs.bor j) ∧ as[k]? = some (Sl.loan o)
  | [], _, _, _, h => by simp [findL] at h
  | r :: _, [], _, _, h => by cases r <;> simp [findL] at h
  | r :: rs, a :: as, j, o, h => by
    have up : findL j rs as = some o → ∃ k : Nat, (r :: rs)[k]? = some (Rs.bor j) ∧ (a :: as)[k]? = some (Sl.loan o) := fun h => by
      obtain ⟨k, h1, h2⟩ := findL_some h
      exact ⟨k + 1, by simpa using h1, by simpa using h2⟩
    cases r with
    | val p => exact up h
    | own o' => exact up h
    | bor i =>
      cases a with
      | no => exact up h
      | val p => exact up h
      | own o' => exact up h
      | loan o' =>
        unfold findL at h
        by_cases z : i = j
        · rw [if_pos z] at h
          subst z
          exact ⟨0, rfl, by rw [Option.some.inj h]; rfl⟩
        · rw [if_neg z] at h; exact up h
theorem findL_none : ∀ {rs : List Rs} {as : List Sl} {j : Nat}, findL j rs as = none → ∀ (k : Nat) (o : O), rs[k]? = some (.bor j) → as[k]? ≠ some (.loan o)
  | [], _, _, _, k, o, h1 => by simp at h1
  | _ :: _, [], _, _, k, o, h1 => by simp
  | r :: rs, a :: as, j, h, k, o, h1 => by
    have up : findL j rs as = none → k ≠ 0 → (a :: as)[k]? ≠ some (.loan o) := fun h hk => by
      cases k with
      | zero => exact absurd rfl hk
      | succ k =>
        have := findL_none h k o (by simpa using h1)
        simpa using this
    cases k with
    | zero =>
      simp at h1; subst h1
      cases a with
      | no => simp
      | val p => simp
      | own o' => simp
      | loan o' => unfold findL at h; rw [if_pos rfl] at h; cases h
    | succ k =>
      refine up ?_ (Nat.succ_ne_zero k)
      cases r with
      | val p => exact h
      | own o' => exact h
      | bor i =>
        cases a with
        | no => exact h
        | val p => exact h
        | own o' => exact h
        | loan o' =>
          unfold findL at h
          by_cases z : i = j
          · rw [if_pos z] at h; cases h
          · rw [if_neg z] at h; exact h
theorem store_get {j : Nat} : (storeA π rs as)[j]? = (π[j]?).map fun sl => match findL j rs as with
    | some o => sl.put o
    | none => sl := by
  unfold storeA
  rw [List.getElem?_mapIdx]
theorem put_ow {sl : Sl} {o : O} : (sl.put o).ow = sl.ow.map fun _ => o := by cases sl <;> rfl
/-- behind the call: the caller's slots -/
theorem store_ok (s : SR c F π σ H) (h : RRs c π0 H0 F π σ H rs vs) (e : loads π rs = some as) (hn : (rs.filterMap borIx).Nodup)
    (t : Tr F as (vs.map some) H F' as' (vs.map some) H') (s' : SR c F' as' (vs.map some) H') :
    SR c F' (storeA π rs as') σ H' ∧ Tr F π σ H F' (storeA π rs as') σ H' ∧ (∀ r v, RC c as (vs.map some) H F' as' (vs.map some) H' r v → RR c π H F' (storeA π rs as') σ H' r.rs v) := by
  obtain ⟨sa, oa⟩ := load_sr s h e hn
  have lift : ∀ (j : Nat) (sl : Sl) (o : O), (storeA π rs as')[j]? = some sl → sl.ow = some o → ∃ sl1 o1, π[j]? = some sl1 ∧ sl1.ow = some o1 ∧ (match findL j rs as' with | some o2 => o = o2 | none => o = o1) := fun j sl o e1 e2 => by
    rw [store_get] at e1
    cases q : π[j]? with
    | none => rw [q] at e1; cases e1
    | some sl1 =>
      rw [q] at e1
      cases f : findL j rs as' with
      | none =>
        rw [f] at e1
        cases e1
        exact ⟨_, o, rfl, e2, rfl⟩
      | some o2 =>
        rw [f] at e1
        have e3 : sl1.put o2 = sl := Option.some.inj e1
        subst e3
        rw [put_ow] at e2
        cases g : sl1.ow with
        | none => rw [g] at e2; cases e2
        | some o1 => rw [g] at e2; exact ⟨sl1, o1, rfl, g, (Option.some.inj e2).symm⟩
  -- whom the call owned
  have who : ∀ (b : Addr) (j : Nat) (sl1 : Sl) (o1 : O), π[j]? = some sl1 → sl1.ow = some o1 → σ[j]? = some (some (.ref b)) → Own as (vs.map some) b → findL j rs as' ≠ none := fun b j sl1 o1 e1 e2 e3 ⟨k, sl, o, q1, q2, q3⟩ z => by
    obtain ⟨r, v, p1, p2, p3, p4⟩ := load_at h e k sl q1
    cases sl with
    | no => cases q2
    | val p => cases q2
    | own o' => exact load_noOwn h e k o' q1
    | loan o' =>
      obtain ⟨i, sl', rfl, p5, p6⟩ := loadR_loan p4
      have p3' : σ[i]? = some (some v) := p3
      have r1 : v = .ref b := by simp [p2] at q3; exact q3
      subst r1
      have := s.dj i j _ _ o' o1 b p5 p6 e1 e2 p3' e3
      subst this
      obtain ⟨_, o2, e4⟩ := t.ln k o' q1
      exact findL_none z k o2 p1 e4
  have own1 : ∀ b, Own (storeA π rs as') σ b → Own π σ b := fun b ⟨j, sl, o, e1, e2, e3⟩ => by
    obtain ⟨sl1, o1, q1, q2, _⟩ := lift j sl o e1 e2
    exact ⟨j, sl1, o1, q1, q2, e3⟩
  have tr : Tr F π σ H F' (storeA π rs as') σ H' := ⟨t.le, fun b o q n => t.keep b o q fun z => n (oa b z), fun b q => (t.new b q).imp id (Or.imp id (oa b)), fun b q => .inr (own1 b q), fun j o q => ⟨rfl, ?_⟩⟩
  · refine ⟨⟨s'.le, by unfold storeA; rw [List.length_mapIdx]; exact s.len, fun j p q => ?_, fun j sl o e1 e2 => ?_, fun j k s1 s2 o1 o2 b e1 e2 e3 e4 e5 e6 => ?_⟩, tr, fun r v hr => ?_⟩
    · rw [store_get] at q
      cases z : π[j]? with
      | none => rw [z] at q; cases q
      | some sl =>
        rw [z] at q
        have hv : sl = .val p := by
          cases f : findL j rs as' with
          | none => rw [f] at q; exact Option.some.inj q
          | some o2 =>
            rw [f] at q
            have q' : sl.put o2 = .val p := Option.some.inj q
            cases sl <;> first | exact q' | cases q'
        subst hv
        obtain ⟨v, e1, h1⟩ := s.vl j p z
        exact ⟨v, e1, Rp.mono t.le _ _ h1⟩
    · obtain ⟨sl1, o1, q1, q2, q3⟩ := lift j sl o e1 e2
      obtain ⟨b, e3, h1, h2⟩ := s.ow j sl1 o1 q1 q2
      refine ⟨b, e3, ?_⟩
      cases f : findL j rs as' with
      | some o2 =>
        rw [f] at q3
        have q3' : o = o2 := q3
        subst q3'
        obtain ⟨k, p1, p2⟩ := findL_some f
        obtain ⟨b', e4, h3, h4⟩ := s'.ow k _ o p2 rfl
        have hk : k < rs.length := (List.getElem?_eq_some_iff.mp p1).1
        have hk2 : k < as.length := by rw [load_len e]; exact hk
        obtain ⟨r, v, w1, w2, w3, w4⟩ := load_at h e k _ (List.getElem?_eq_getElem hk2)
        rw [p1] at w1
        cases w1
        have w3' : σ[j]? = some (some v) := w3
        rw [e3] at w3'
        cases w3'
        have r1 : b = b' := by simp [w2] at e4; exact e4
        subst r1
        exact ⟨h3, h4⟩
      | none =>
        rw [f] at q3
        have q3' : o = o1 := q3
        subst q3'
        have nb : ¬ Own as (vs.map some) b := fun z => who b j sl1 o q1 q2 e3 z f
        obtain ⟨u, hu⟩ := h2.there
        refine ⟨?_, h2.step t.le fun x q => t.keep b x q nb⟩
        cases g : F' b with
        | none => rfl
        | some x =>
          rcases t.new b (by rw [g]; exact fun z => nomatch z) with z | z | z
          · exact absurd h1 z
          · rw [hu] at z; cases z
          · exact absurd z nb
    · obtain ⟨s3, o3, q1, q2, _⟩ := lift j s1 o1 e1 e2
      obtain ⟨s4, o4, q3, q4, _⟩ := lift k s2 o2 e3 e4
      exact s.dj j k s3 s4 o3 o4 b q1 q2 q3 q4 e5 e6
    · cases r with
      | val p => exact hr
      | own o =>
        obtain ⟨b, e1, q1, q2, q3, q4⟩ := hr
        have fresh : H b = none := by
          rcases q4 with q | ⟨k, sl, o2, p1, p2, p3⟩
          · exact q
          · cases sl with
            | no => cases p2
            | val p => cases p2
            | own o' => exact absurd p1 (load_noOwn h e k o')
            | loan o' =>
              obtain ⟨w1, o3, w2⟩ := t.ln k o' p1
              exact absurd ⟨k, o3, w2, p3⟩ q2
        refine ⟨b, e1, q1, fun z => ?_, q3, .inl fresh⟩
        obtain ⟨u, hu⟩ := own_some s (own1 b z)
        rw [hu] at fresh; cases fresh
  · rw [store_get, q]
    cases findL j rs as' with
    | none => exact ⟨o, rfl⟩
    | some o2 => exact ⟨o2, rfl⟩
/-- the call's reading -/
theorem call_post {Fn : FN} {K : Rs → En → Hp → Hp → Prop} {Q : VK} {n : Nat} (s : SR c F π σ H) (h : RRs c π0 H0 F π σ H rs vs) (hlen : rs.length = n)
    (po : Po c W F π σ H (callR Fn rs π) K) (k : ∀ r π' F' H' v, Tr F π σ H F' π' σ H' → K r π' F' H' → RR c π H F' π' σ H' r v → Q v H') : spF c n Fn vs H Q (fun cls d H' => W cls d σ H') := by
  unfold callR at po
  cases e : loads π rs with
  | none => rw [e] at po; exact po.elim
  | some as =>
    rw [e] at po
    by_cases hn : (rs.filterMap borIx).Nodup
    · simp only [if_pos hn] at po
      obtain ⟨sa, oa⟩ := load_sr s h e hn
      refine ⟨F, as, by rw [load_len e]; exact hlen, load_noOwn h e, sa, ?_⟩
      cases f : Fn as with
      | bad => rw [f] at po; exact po
      | exc C ps as' =>
        rw [f] at po
        intro F' H' d t s' xd
        obtain ⟨h1, h2, _⟩ := store_ok s h e hn t s'
        exact po F' H' d h2 h1 xd
      | ok r as' =>
        rw [f] at po
        intro v F' H' t s' hr
        obtain ⟨h1, h2, h3⟩ := store_ok s h e hn t s'
        exact k _ _ _ _ v h2 (po F' H' h2 h1) (h3 r v hr)
    · simp only [if_neg hn] at po
      exact po.elim
end
section
variable {X : Cx} {c : Ctx} {w : Wi} {k n : Nat} {f : Addr} {fd : FuncData} {ps : List Str} {Fn : FN} {x m : Str} {p pos apos : Pos} {e o : Expr} {es : List Expr} {fa : M (List Rs)} {fo : M Rs}
/-- f(e, ..) -/
theorem p_call (G : FnOk X.prog X.w X.K X.mg X.base (L2.CX X.prog X.w) k f fd ps (spF c n Fn)) (hr : Room k X.A) (hg : Gl X x) (hm : X.mg x = some (.ref f)) (hk : PySem.W.keepIn X.K (.ref f) = true) (hb : Binds X.K fd ps []) (tk : Takes X w.W)
    (ha : PA X (e :: es) (tR c w fa)) (hlen : ∀ π rs π', fa π = .ok rs π' → rs.length = n) (hdb : (x == ("__debug__" : Str)) = false := by decide) (he : starEach (e :: es) X.env = (false, eval e X.env) :: starEach es X.env := by rfl) (hpl : (backTo pos (starEach es X.env)).any (·.1) = false := by rfl) :
    PE X (.Call (.Name x p) (e :: es) [] pos) (tE c w (callF Fn fa)) :=
  pe_weak (pe_callS G hr hg hm hk hb (fun σ => passAt tk σ) ha hdb he hpl) fun σ H Q ⟨F, π, gg, s, po⟩ => by
    refine ⟨F, π, gg, s, ?_⟩
    unfold callF at po
    cases e0 : fa π with
    | bad => rw [e0] at po; exact po
    | exc C qs π1 => rw [e0] at po; exact po
    | ok rs π1 =>
      rw [e0] at po
      intro F1 H1 t s1 vs hx
      refine call_post s1 hx (hlen _ _ _ e0) (Po.from po t) fun r π2 F2 H2 v t2 kk hr2 => kk v (hr2.base t)
end
end PV

namespace PV
open PySem L2 PyProof.Rows

/-! ### tests -/
def tstR (r : Rs) : M Bool := fun π => match r with
  | .val (.bl b) => .ok b π
  | _ => .bad
def tstF (f : M Rs) : M Bool := fun π => (f π).bind tstR
theorem tst_weak {c : Ctx} {w : Wi} {f : M Rs} {t : TE} (h : ∀ σ H Q, tE c w f σ H Q → t σ H Q) : ∀ (σ : L2.St) (H : Hp) (Q : Bool → Hp → Prop), tT c w (tstF f) σ H Q → t σ H (fun x H' => ∃ k, x = .bl k ∧ Q k H') := fun σ H Q ⟨F, π, gg, s, po⟩ => by
  refine h σ H _ ⟨F, π, gg, s, (Po.split po).mono fun r π1 F1 H1 t s1 p1 v hr => ?_⟩
  cases r with
  | own o => exact p1.elim
  | bor i => exact p1.elim
  | val p =>
    cases p with
    | bl b => exact ⟨b, rp_bl (show Rp c F1 (.bl b) v from hr), p1 F1 H1 .refl s1⟩
    | _ => exact p1.elim
section
variable {X : Cx} {c : Ctx} {w : Wi} {e a b d : Expr} {rest : List Expr} {pos : Pos} {f g h : M Rs} {ft gt : M Bool}
/-- a value that is a truth -/
theorem p_tst (he : PE X e (tE c w f)) (hi : ∀ whole, isTrue e X.env whole = (do let v ← whole; standAt e.pos; holding [v] (truthy v)) := by intro _; rfl) : PT X e (tT c w (tstF f)) :=
  pt_weak (pt_val he hi) (tst_weak fun _ _ _ h => h)
theorem p_tcmp {op : CmpOp} {r : R2} {o : P → P → Option Rv} (hop : OpR X (compareOp op) r) (hv : OpV c r o) (ha : PE X a (tE c w f)) (hb : PE X b (tE c w g)) (hm : behindInMarks op b = false) : PT X (.Compare a [op] [b] pos) (tT c w (tstF (binF o f g))) :=
  pt_weak (pt_cmpR hop ha hb hm) (tst_weak (bin_weak hv))
theorem pw_weak {X : Cx} {e : Expr} {t t' : TT} (h : PW X e t) (k : ∀ σ H Q, t' σ H Q → t σ H Q) : PW X e t' := ⟨fun wh pins s σ H Q I q => h.run wh pins s σ H Q I (k _ _ _ q)⟩
def andF (ft gt : M Bool) : M Bool := fun π => (ft π).bind fun b π1 => if b = true then gt π1 else .ok false π1
def orF (ft gt : M Bool) : M Bool := fun π => (ft π).bind fun b π1 => if b = true then .ok true π1 else gt π1
def notF (ft : M Bool) : M Bool := fun π => (ft π).bind fun b π1 => .ok (!b) π1
theorem w_and1 (ha : PT X a (tT c w ft)) : PW X (.BoolOp .And [a] pos) (tT c w ft) := pw_and1 ha
theorem w_or1 (ha : PT X a (tT c w ft)) : PW X (.BoolOp .Or [a] pos) (tT c w ft) := pw_or1 ha
theorem w_and (ha : PT X a (tT c w ft)) (hb : PW X (.BoolOp .And (b :: rest) pos) (tT c w gt)) : PW X (.BoolOp .And (a :: b :: rest) pos) (tT c w (andF ft gt)) :=
  pw_weak (pw_and ha hb) fun σ H Q ⟨F, π, gg, s, po⟩ => by
    refine ⟨F, π, gg, s, (Po.split po).mono fun k π1 F1 H1 t s1 p1 => ?_⟩
    cases k with
    | true => exact ⟨F1, π1, w.mono _ _ t.le gg, s1, p1⟩
    | false => exact p1 F1 H1 .refl s1
theorem w_or (ha : PT X a (tT c w ft)) (hb : PW X (.BoolOp .Or (b :: rest) pos) (tT c w gt)) : PW X (.BoolOp .Or (a :: b :: rest) pos) (tT c w (orF ft gt)) :=
  pw_weak (pw_or ha hb) fun σ H Q ⟨F, π, gg, s, po⟩ => by
    refine ⟨F, π, gg, s, (Po.split po).mono fun k π1 F1 H1 t s1 p1 => ?_⟩
    cases k with
    | false => exact ⟨F1, π1, w.mono _ _ t.le gg, s1, p1⟩
    | true => exact p1 F1 H1 .refl s1
theorem p_not (ha : PT X a (tT c w ft)) : PT X (.UnaryOp .Not a pos) (tT c w (notF ft)) :=
  pt_weak (pt_not ha) fun σ H Q ⟨F, π, gg, s, po⟩ => ⟨F, π, gg, s, (Po.split po).mono fun k π1 F1 H1 t s1 p1 => p1 F1 H1 .refl s1⟩
/-! .. as values -/
def boolR (k : Bool → M Rs) (r : Rs) : M Rs := fun π => match r with
  | .val (.bl b) => k b π
  | _ => .bad
def andVF (f g : M Rs) : M Rs := fun π => (f π).bind (boolR fun b π1 => if b = true then g π1 else .ok (.val (.bl false)) π1)
def orVF (f g : M Rs) : M Rs := fun π => (f π).bind (boolR fun b π1 => if b = true then .ok (.val (.bl true)) π1 else g π1)
def notVF (f : M Rs) : M Rs := fun π => (f π).bind (boolR fun b π1 => .ok (.val (.bl (!b))) π1)
theorem boolR_post {W : WX} {F H H0 : Hp} {π π0 : En} {σ : L2.St} {k : Bool → M Rs} {r : Rs} {v : V} {K : Rs → En → Hp → Hp → Prop} (hr : RR c π0 H0 F π σ H r v) (po : Po c W F π σ H (boolR k r π) K) : ∃ b, v = .bl b ∧ Po c W F π σ H (k b π) K := by
  cases r with
  | own o => exact po.elim
  | bor i => exact po.elim
  | val p =>
    cases p with
    | bl b => exact ⟨b, rp_bl (show Rp c F (.bl b) v from hr), po⟩
    | _ => exact po.elim
theorem v_one {op} (h : PE X a (tE c w f)) : PE X (.BoolOp op [a] pos) (tE c w f) := pe_one h
theorem v_and (ha : PE X a (tE c w f)) (hb : PE X (.BoolOp .And (b :: rest) pos) (tE c w g)) : PE X (.BoolOp .And (a :: b :: rest) pos) (tE c w (andVF f g)) :=
  pe_weak (pe_and ha hb) fun σ H Q ⟨F, π, gg, s, po⟩ => by
    refine ⟨F, π, gg, s, (Po.split po).mono fun r π1 F1 H1 t s1 p1 v hr => ?_⟩
    obtain ⟨k, rfl, p2⟩ := boolR_post hr p1
    refine ⟨k, rfl, ?_⟩
    cases k with
    | true => exact ⟨F1, π1, w.mono _ _ t.le gg, s1, Po.mono p2 fun r2 π2 F2 H2 t2 s2 kk v2 h2 => kk v2 (h2.base t)⟩
    | false => exact p2 F1 H1 .refl s1 _ (show Rp c F1 (.bl false) (.bl false) from mk_bl)
theorem v_or (ha : PE X a (tE c w f)) (hb : PE X (.BoolOp .Or (b :: rest) pos) (tE c w g)) : PE X (.BoolOp .Or (a :: b :: rest) pos) (tE c w (orVF f g)) :=
  pe_weak (pe_or ha hb) fun σ H Q ⟨F, π, gg, s, po⟩ => by
    refine ⟨F, π, gg, s, (Po.split po).mono fun r π1 F1 H1 t s1 p1 v hr => ?_⟩
    obtain ⟨k, rfl, p2⟩ := boolR_post hr p1
    refine ⟨k, rfl, ?_⟩
    cases k with
    | false => exact ⟨F1, π1, w.mono _ _ t.le gg, s1, Po.mono p2 fun r2 π2 F2 H2 t2 s2 kk v2 h2 => kk v2 (h2.base t)⟩
    | true => exact p2 F1 H1 .refl s1 _ (show Rp c F1 (.bl true) (.bl true) from mk_bl)
theorem v_not (ha : PE X a (tE c w f)) : PE X (.UnaryOp .Not a pos) (tE c w (notVF f)) :=
  pe_weak (pe_not ha) fun σ H Q ⟨F, π, gg, s, po⟩ => by
    refine ⟨F, π, gg, s, (Po.split po).mono fun r π1 F1 H1 t s1 p1 v hr => ?_⟩
    obtain ⟨k, rfl, p2⟩ := boolR_post hr p1
    exact ⟨k, rfl, p2 F1 H1 .refl s1 _ (show Rp c F1 (.bl (!k)) (.bl (!k)) from mk_bl)⟩
/-! a if t else b -/
def ifEF (ft : M Bool) (f g : M Rs) : M Rs := fun π => (ft π).bind fun b π1 => if b = true then f π1 else g π1
theorem p_ifExp (hc : PT X d (tT c w ft)) (ha : PE X a (tE c w f)) (hb : PE X b (tE c w g)) : PE X (.IfExp d a b pos) (tE c w (ifEF ft f g)) :=
  pe_weak (pe_ifExp hc ha hb) fun σ H Q ⟨F, π, gg, s, po⟩ => by
    refine ⟨F, π, gg, s, (Po.split po).mono fun k π1 F1 H1 t s1 p1 => ?_⟩
    cases k with
    | true => exact ⟨F1, π1, w.mono _ _ t.le gg, s1, Po.mono p1 fun r2 π2 F2 H2 t2 s2 kk v2 h2 => kk v2 (h2.base t)⟩
    | false => exact ⟨F1, π1, w.mono _ _ t.le gg, s1, Po.mono p1 fun r2 π2 F2 H2 t2 s2 kk v2 h2 => kk v2 (h2.base t)⟩
/-! a op b op' d -/
def chF (o o' : P → P → Option Rv) (f g h : M Rs) : M Rs := fun π => (f π).bind fun r1 π1 => (g π1).bind fun r2 π2 => (op2 o r1 r2 π2).bind (boolR fun b π3 => if b = true then (h π3).bind (fun r3 => op2 o' r2 r3) else .ok (.val (.bl false)) π3)
theorem op2_post {W : WX} {F H H1 H2 : Hp} {π π1 π2 : En} {σ : L2.St} {o : P → P → Option Rv} {r : R2} (hv : OpV c r o) {r1 r2 : Rs} {x y : V} {K : Rs → En → Hp → Hp → Prop} {Q : VK} (s : SR c F π σ H) (hx : RR c π1 H1 F π σ H r1 x) (hy : RR c π2 H2 F π σ H r2 y)
    (po : Po c W F π σ H (op2 o r1 r2 π) K) (k : ∀ r' F' H' v, Tr F π σ H F' π σ H' → SR c F' π σ H' → K r' π F' H' → RR c π H F' π σ H' r' v → Q v H') : r x y H Q := by
  unfold op2 at po
  cases e1 : rdP π r1 with
  | none => rw [e1] at po; exact po.elim
  | some q1 =>
    cases e2 : rdP π r2 with
    | none => rw [e1, e2] at po; exact po.elim
    | some q2 =>
      rw [e1, e2] at po
      cases e3 : o q1 q2 with
      | none => simp only [e3] at po; exact po.elim
      | some rv =>
        simp only [e3] at po
        exact hv F H q1 q2 x y rv Q s.le (hx.rb s e1) (hy.rb s e2) e3 fun v F3 H3 gr rn => k _ F3 H3 v gr.tr (gr.sr s) (po F3 H3 gr.tr (gr.sr s)) (rn.rr s gr)
theorem ch_weak {r r' : R2} {o o' : P → P → Option Rv} (hv : OpV c r o) (hv' : OpV c r' o') : ∀ σ H Q, tE c w (chF o o' f g h) σ H Q → tChain r r' (tE c w f) (tE c w g) (tE c w h) σ H Q := fun σ H Q ⟨F, π, gg, s, po⟩ => by
  refine ⟨F, π, gg, s, (Po.split po).mono fun r1 π1 F1 H1 t1 s1 p1 x hx => ⟨F1, π1, w.mono _ _ t1.le gg, s1, (Po.split p1).mono fun r2 π2 F2 H2 t2 s2 p2 y hy => ?_⟩⟩
  refine op2_post hv s2 (hx.step t2) hy (Po.split p2) fun r3 F3 H3 v t3 s3 p3 h3 => ?_
  obtain ⟨k, rfl, p4⟩ := boolR_post h3 p3
  refine ⟨k, rfl, ?_⟩
  cases k with
  | false => exact p4 F3 H3 .refl s3 _ (show Rp c F3 (.bl false) (.bl false) from mk_bl)
  | true =>
    refine ⟨F3, π2, w.mono _ _ ((t1.trans t2).trans t3).le gg, s3, (Po.split p4).mono fun r4 π4 F4 H4 t4 s4 p5 z hz => ?_⟩
    exact op2_post hv' s4 ((hy.step t3).step t4) hz p5 fun r5 F5 H5 v t5 s5 kk h5 => kk v (h5.base (((t1.trans t2).trans t3).trans t4))
theorem p_chain {op op' : CmpOp} {r r' : R2} {o o' : P → P → Option Rv} (ho : OpR X (compareOp op) r) (hv : OpV c r o) (ho' : OpR X (compareOp op') r') (hv' : OpV c r' o') (ha : PE X a (tE c w f)) (hb : PE X b (tE c w g)) (hc : PE X d (tE c w h))
    (hm : lastMarks [op, op'] [b, d] = false := by with_unfolding_all rfl) : PE X (.Compare a [op, op'] [b, d] pos) (tE c w (chF o o' f g h)) := pe_weak (pe_chain ho ho' ha hb hc hm) (ch_weak hv hv')
theorem p_tchain {op op' : CmpOp} {r r' : R2} {o o' : P → P → Option Rv} (ho : OpR X (compareOp op) r) (hv : OpV c r o) (ho' : OpR X (compareOp op') r') (hv' : OpV c r' o') (ha : PE X a (tE c w f)) (hb : PE X b (tE c w g)) (hc : PE X d (tE c w h))
    (hm : lastMarks [op, op'] [b, d] = false := by with_unfolding_all rfl) : PT X (.Compare a [op, op'] [b, d] pos) (tT c w (tstF (chF o o' f g h))) := pt_weak (pt_chain ho ho' ha hb hc hm) (tst_weak (ch_weak hv hv'))
end

/-! ### displays: their items are taken -/
def outs (f : M (List Rs)) (k : List P → M Rs) : M Rs := fun π => (f π).bind fun rs π1 => match rds π1 rs with
  | some ps => k ps π1
  | none => .bad
/-- items: each a value -/
def vals : List Rs → Option (List P)
  | [] => some []
  | .val p :: rs => (vals rs).map (p :: ·)
  | _ :: _ => none
def tupR (rs : List Rs) : M Rs := fun π => match vals rs with
  | some ps => if ps.length ≤ 1000000 then .ok (.val (.tup ps)) π else .bad
  | none => .bad
def lstR (rs : List Rs) : M Rs := fun π => match vals rs with
  | some ps => if ps.length ≤ 1000000 then .ok (.own (.lst ps)) π else .bad
  | none => .bad
def tupF (f : M (List Rs)) : M Rs := fun π => (f π).bind tupR
def lstF (f : M (List Rs)) : M Rs := fun π => (f π).bind lstR
section
variable {X : Cx} {c : Ctx} {w : Wi} {es : List Expr} {pos : Pos} {f : M (List Rs)} {π0 : En} {H0 F H : Hp} {π : En} {σ : L2.St}
theorem vals_rps : ∀ {rs : List Rs} {vs : List V} {ps : List P}, RRs c π0 H0 F π σ H rs vs → vals rs = some ps → Rps c F ps vs
  | [], _, _, h, e => by cases e; rw [show _ = [] from h]; exact rps_nil
  | .val p :: rs, _, _, h, e => by
    obtain ⟨v, l, rfl, h1, h2⟩ := h
    unfold vals at e
    cases e1 : vals rs with
    | none => rw [e1] at e; cases e
    | some qs =>
      rw [e1] at e
      cases e
      exact rps_cons h1 (vals_rps h2 e1)
  | .own _ :: _, _, _, _, e => by cases e
  | .bor _ :: _, _, _, _, e => by cases e
theorem len_line {ps : List P} {vs : List V} (r : Rps c F ps vs) (h : ps.length ≤ 1000000) : vs.length ≤ sizeLine := by
  have := rps_len r
  have := sizeLine_eq
  omega
theorem p_tup {x1} (h : PA X es (tR c w f)) : PE X (.Tuple es x1 pos) (tE c w (tupF f)) := pe_weak (pe_tup h) fun σ H Q ⟨F, π, gg, s, po⟩ => by
  refine ⟨F, π, gg, s, (Po.split po).mono fun rs π1 F1 H1 t s1 p1 vs hr => ?_⟩
  unfold tupR at p1
  cases e : vals rs with
  | none => rw [e] at p1; exact p1.elim
  | some ps =>
    rw [e] at p1
    have r := vals_rps hr e
    by_cases hl : ps.length ≤ 1000000
    · simp only [if_pos hl] at p1
      refine ⟨len_line r hl, fun p hp => ?_⟩
      have gr := gr_tup (vs := vs) s1.le hp
      exact p1 _ _ gr.tr (gr.sr s1) _ (RN.rr (rv := .val (.tup ps)) s1 gr (rn_tup s1.le hp r))
    · simp only [if_neg hl] at p1; exact p1.elim
theorem p_lst (h : PA X es (tR c w f)) : PE X (.List es pos) (tE c w (lstF f)) := pe_weak (pe_lst h) fun σ H Q ⟨F, π, gg, s, po⟩ => by
  refine ⟨F, π, gg, s, (Po.split po).mono fun rs π1 F1 H1 t s1 p1 vs hr => ?_⟩
  unfold lstR at p1
  cases e : vals rs with
  | none => rw [e] at p1; exact p1.elim
  | some ps =>
    rw [e] at p1
    have r := vals_rps hr e
    by_cases hl : ps.length ≤ 1000000
    · simp only [if_pos hl] at p1
      refine ⟨len_line r hl, fun p hp => ?_⟩
      have gr : Gr F1 H1 F1 (L2.upd H1 p (.lst vs)) := gr_lst s1.le hp
      exact p1 _ _ gr.tr (gr.sr s1) _ ((RN.rr (rv := .own (.lst ps)) s1 gr (rn_lst s1.le hp r)).base t)
    · simp only [if_neg hl] at p1; exact p1.elim
end
end PV

namespace PV
open PySem L2 PyProof.Rows

/-! ### targets -/
abbrev TgF := P → En → Option En
def PoT (c : Ctx) (F : Hp) (π : En) (σ : L2.St) (H : Hp) (sl : List Nat) (o : Option En) (Q : L2.St → Hp → Prop) : Prop := match o with
  | some π' => ∀ σ', SR c F π' σ' H → Tr F π σ H F π' σ' H → (∀ j, j ∉ sl → σ'[j]? = σ[j]?) → σ'.length = σ.length → Q σ' H
  | none => False
def tG (c : Ctx) (w : Ws) (sl : List Nat) (t : TgF) : TG := fun v σ H Q => ∃ F π p, w.g F ∧ SR c F π σ H ∧ Rp c F p v ∧ PoT c F π σ H sl (t p π) Q
def tGs (c : Ctx) (w : Ws) (sl : List Nat) (t : List P → En → Option En) : TGs := fun vs σ H Q => ∃ F π ps, w.g F ∧ SR c F π σ H ∧ Rps c F ps vs ∧ PoT c F π σ H sl (t ps π) Q
def nameT (i : Nat) : TgF := fun p π => match π[i]? with
  | none => none
  | some (.loan _) => none
  | some _ => some (π.set i (.val p))
def nilT : List P → En → Option En
  | [], π => some π
  | _, _ => none
def consT (t : TgF) (u : List P → En → Option En) : List P → En → Option En
  | p :: ps, π => (t p π).bind (u ps)
  | [], _ => none
def tupT (t : List P → En → Option En) : TgF
  | .tup ps => t ps
  | _ => fun _ => none
section
variable {X : Cx} {c : Ctx} {w : Ws} {e : Expr} {es : List Expr} {pos : Pos} {t : TgF} {u : List P → En → Option En} {sl sl' : List Nat}
theorem pg_weak {X : Cx} {e : Expr} {t t' : TG} (h : PG X e t) (k : ∀ v σ H Q, t' v σ H Q → t v σ H Q) : PG X e t' := ⟨fun pins s σ H v u Q I r q => h.run pins s σ H v u Q I r (k _ _ _ _ q)⟩
theorem pgs_weak {X : Cx} {e : List Expr} {t t' : TGs} (h : PGs X e t) (k : ∀ v σ H Q, t' v σ H Q → t v σ H Q) : PGs X e t' := ⟨fun pins s σ H v u Q I r q => h.run pins s σ H v u Q I r (k _ _ _ _ q)⟩
theorem nameT_post {F H : Hp} {π : En} {σ : L2.St} {i : Nat} {p : P} {v : V} {Q : L2.St → Hp → Prop} (s : SR c F π σ H) (r : Rp c F p v) (po : PoT c F π σ H [i] (nameT i p π) Q) : Q (σ.set i (some v)) H := by
  unfold nameT at po
  cases q : π[i]? with
  | none => rw [q] at po; exact po.elim
  | some sl =>
    rw [q] at po
    have main : (∀ o, sl ≠ .loan o) → PoT c F π σ H [i] (some (π.set i (.val p))) Q → Q (σ.set i (some v)) H := fun hn po => by
      have hi : i < π.length := (List.getElem?_eq_some_iff.mp q).1
      obtain ⟨s2, t2⟩ := s.set hi (fun o z => by rw [q] at z; exact hn o (Option.some.inj z)) (.val p) (some v) (fun p' e => by cases e; exact ⟨v, rfl, r⟩) (fun o e => by cases e) (fun o e => by cases e)
      exact po _ s2 (t2 _ _ _ _ .refl fun a e ⟨o, h⟩ => by cases h) (fun j hj => List.getElem?_set_ne (by intro z; exact hj (by simp [z]))) (by simp)
    cases sl with
    | loan o => exact po.elim
    | no => exact main (fun o z => by cases z) po
    | val p => exact main (fun o z => by cases z) po
    | own o => exact main (fun o z => by cases z) po
theorem g_name {i : Nat} {x : Str} (hN : X.N.Nodup) (hi : X.N[i]? = some x) (hx : Loc X.env.scope x) (hf : X.fn x = true ∨ X.env.scope.names.lookup x = some .local := by first | exact .inl rfl | exact .inr rfl | assumption) : PG X (.Name x pos) (tG c w [i] (nameT i)) :=
  pg_weak (pg_name hN hi hx hf) fun v σ H Q ⟨F, π, p, gg, s, r, po⟩ => nameT_post s r po
theorem gs_nil : PGs X [] (tGs c w [] nilT) := pgs_weak pgs_nil fun vs σ H Q ⟨F, π, ps, gg, s, r, po⟩ => by
  cases ps with
  | nil => exact ⟨rps_nil_inv r, po σ s .refl (fun _ _ => rfl) rfl⟩
  | cons p ps => exact po.elim
theorem gs_cons (h1 : PG X e (tG c w sl t)) (h2 : PGs X es (tGs c w sl' u)) (hs : (assignEach (e :: es) X.env).map (·.2) = assign e X.env :: (assignEach es X.env).map (·.2) := by rfl) : PGs X (e :: es) (tGs c w (sl ++ sl') (consT t u)) :=
  pgs_weak (pgs_cons h1 h2 hs) fun vs σ H Q ⟨F, π, ps, gg, s, r, po⟩ => by
    cases ps with
    | nil => exact po.elim
    | cons p ps =>
      obtain ⟨v, l, rfl, r1, r2⟩ := rps_inv r
      refine ⟨v, l, rfl, F, π, p, gg, s, r1, ?_⟩
      unfold consT at po
      cases e1 : t p π with
      | none => simp only [e1, Option.bind] at po; exact po.elim
      | some π1 =>
        simp only [e1, Option.bind] at po
        intro σ1 s1 t1 k1 n1
        refine ⟨F, π1, ps, gg, s1, r2, ?_⟩
        cases e2 : u ps π1 with
        | none => rw [e2] at po; exact po.elim
        | some π2 =>
          rw [e2] at po
          intro σ2 s2 t2 k2 n2
          exact po σ2 s2 (t1.trans t2) (fun j hj => (k2 j fun z => hj (List.mem_append_right _ z)).trans (k1 j fun z => hj (List.mem_append_left _ z))) (n2.trans n1)
/-- how many parts a target wants -/
def Arity (n : Nat) (u : List P → En → Option En) : Prop := ∀ ps π π', u ps π = some π' → ps.length = n
theorem ar_nil : Arity 0 nilT := fun ps π π' h => by
  cases ps with
  | nil => rfl
  | cons p ps => cases h
theorem ar_cons {n : Nat} (h : Arity n u) : Arity (n + 1) (consT t u) := fun ps π π' e => by
  cases ps with
  | nil => cases e
  | cons p ps =>
    cases e1 : t p π with
    | none => simp only [consT, e1, Option.bind] at e; cases e
    | some π1 =>
      simp only [consT, e1, Option.bind] at e
      rw [List.length_cons, h ps π1 π' e]
theorem g_tup {k n : Nat} (hK : X.K = c.K) (hc : X.calm = true) (h : PGs X es (tGs c w sl u)) (hl : Arity n u)
    (hn : (assignEach es X.env).length = n := by rfl) (hst : (assignEach es X.env).findIdx? (·.1) = none := by rfl) : PG X (.Tuple es k pos) (tG c w sl (tupT u)) :=
  pg_weak (pg_tup (n := n) hc h hn hst) fun v σ H Q ⟨F, π, p, gg, s, r, po⟩ => by
    cases p with
    | tup ps =>
      obtain ⟨a, vs, rfl, h1, h2⟩ := rp_tup r
      refine ⟨a, vs, rfl, by rw [hK]; exact s.le.sqT h1, ?_, F, π, ps, gg, s, h2, po⟩
      rw [← rps_len h2]
      have po' : PoT c F π σ H sl (u ps π) Q := po
      cases e : u ps π with
      | none => rw [e] at po'; exact po'.elim
      | some π1 => exact hl ps π π1 e
    | _ => exact po.elim
/-- target = value -/
def asgR (t : TgF) (p : P) : M Fl := fun π => match t p π with
  | some π' => .ok .nx π'
  | none => .bad
def asgF (t : TgF) (f : M P) : M Fl := fun π => (f π).bind (asgR t)
theorem asg_post {W : WX} {F H F0 H0 : Hp} {π π0 : En} {σ : L2.St} {p : P} {v : V} {D : Ends} {g : TG} {W' : Ws} {K : L2.St → Hp → Prop} (gg : W'.g F) (s : SR c F π σ H) (r : Rp c F p v) (t0 : Tr F0 π0 σ H0 F π σ H)
    (po : PoS c W F0 π0 σ H0 (asgR t p π) (flK c D π0 σ H0)) : tG c W' sl t v σ H D.nx := by
  refine ⟨F, π, p, gg, s, r, ?_⟩
  unfold asgR at po
  cases e : t p π with
  | none => rw [e] at po; exact po.elim
  | some π' =>
    rw [e] at po
    exact fun σ' s' t' _ _ => po F σ' H (t0.trans t') s'
theorem s_asg {tg : Expr} {f : M P} (he : PE X e (tV c w f)) (hg : PG X tg (tG c w sl t)) (hs : swapsWithSole [tg] e pos.line X.env = pure false := by rfl) (hw : swappedStores [tg] e X.env = pure none := by rfl)
    (h1 : (assignEach [tg] X.env).map (·.2) = [assign tg X.env] := by rfl) : PS X (.Assign [tg] e pos) (tS c w (asgF t f)) :=
  ps_weak (ps_asg he hg hs hw h1) fun D σ H ⟨F, π, gg, s, po⟩ => by
    refine ⟨F, π, gg, s, ?_⟩
    unfold asgF at po
    cases e0 : f π with
    | bad => rw [e0] at po; exact po
    | exc C ps π1 => rw [e0] at po; exact fun F' H' d t s => po F' σ H' d t s
    | ok p π1 =>
      rw [e0] at po
      intro F1 H1 t1 s1 v hr
      exact asg_post (g := tG c w sl t) (W' := w) (K := D.nx) (w.mono _ _ t1.le gg) s1 hr t1 po
end

/-! ### what a loop walks -/
structure Wk (c : Ctx) (F : Hp) (J : It) (ps : List P) : Prop where
  stop : ∀ G, Le F G → J.stop ps.length G
  go : ∀ i G, Le F G → i < ps.length → J.go i G
  yld : ∀ (i : Nat) (p : P) (F1 G : Hp) (x : V) (G' : Hp), Le F F1 → Le F1 G → ps[i]? = some p → J.yld i G x G' → ∃ F2, Gr F1 G F2 G' ∧ Rp c F2 p x
def tI (c : Ctx) (w : Wi) (f : M (List P)) : TI := fun σ H R => ∃ F π, w.g σ F ∧ SR c F π σ H ∧ Po c w.W F π σ H (f π) (fun ps π' F' H' => ∀ J, Wk c F' J ps → ps.length ≤ sizeLine → R J H')
theorem pi_weak {X : Cx} {tg e : Expr} {t t' : TI} (h : PI X tg e t) (k : ∀ σ H Q, t' σ H Q → t σ H Q) : PI X tg e t' := ⟨fun pins s σ H Q I q => h.run pins s σ H Q I (k _ _ _ q)⟩
/-! for -/
def loopF (t : TgF) (fb : M Fl) : List P → M Fl
  | [] => fun π => .ok .nx π
  | p :: ps => fun π => match t p π with
    | none => .bad
    | some π1 => (fb π1).bind fun fl π2 => match fl with
      | .nx => loopF t fb ps π2
      | .ct => loopF t fb ps π2
      | .bk => .ok .nx π2
      | .rt r => .ok (.rt r) π2
def forF (fi : M (List P)) (t : TgF) (fb : M Fl) : M Fl := fun π => (fi π).bind (loopF t fb)
section
variable {X : Cx} {c : Ctx} {w : Ws} {tg iter : Expr} {body : List Stmt} {pos : Pos} {fi : M (List P)} {t : TgF} {fb : M Fl} {sl : List Nat}
theorem s_for (hp : PassesOwn (model X.prog X.w) X.A X.env X.xe) (hc : X.calm = true) (hi : PI X tg iter (tI c w fi)) (hg : PG X tg (tG c w sl t)) (hb : PSs X body (tS c w fb))
    (hs : ∀ x, foldedSetIterable iter X.env x = pure x := by intro _; rfl) : PS X (.For tg iter body [] pos) (tS c w (forF fi t fb)) :=
  ps_weak (ps_for hp hc hi hg hb hs) fun D σ H ⟨F, π, gg, s, po⟩ => by
    refine ⟨F, π, gg, s, (PoS.split po).mono fun ps π1 F1 H1 t1 s1 p1 J wk _ => ?_⟩
    refine ⟨fun i m σ' H' => m = ps.length - i ∧ i ≤ ps.length ∧ ∃ F' π', Le F1 F' ∧ w.g F' ∧ SR c F' π' σ' H' ∧ Tr F π σ H F' π' σ' H' ∧ PoS c w.W F' π' σ' H' (loopF t fb (ps.drop i) π') (flK c D π σ H),
      ⟨_, rfl, Nat.zero_le _, F1, π1, Le.refl _, w.mono _ _ t1.le gg, s1, t1, p1⟩, ?_⟩
    rintro i m σ' H' ⟨rfl, hi, F', π', l1, g1, s', t', po'⟩
    by_cases hlt : i < ps.length
    · refine .inr ⟨wk.go i H' (l1.trans s'.le) hlt, fun σ2 H2 => (ps.length - (i + 1)) = ps.length - (i + 1) ∧ i + 1 ≤ ps.length ∧ ∃ F' π', Le F1 F' ∧ w.g F' ∧ SR c F' π' σ2 H2 ∧ Tr F π σ H F' π' σ2 H2 ∧ PoS c w.W F' π' σ2 H2 (loopF t fb (ps.drop (i + 1)) π') (flK c D π σ H),
        fun σ2 H2 q => ⟨ps.length - (i + 1), by omega, q⟩, fun x H2 y => ?_⟩
      obtain ⟨F2, gr, rx⟩ := wk.yld i ps[i] F' H' x H2 l1 s'.le (List.getElem?_eq_getElem hlt) y
      rw [List.drop_eq_getElem_cons hlt] at po'
      have po2 := PoS.from po' (gr.tr (π := π') (σ := σ'))
      have s2 := gr.sr s'
      have t2 := t'.trans (gr.tr (π := π') (σ := σ'))
      refine ⟨F2, π', ps[i], w.mono _ _ gr.le g1, s2, rx, ?_⟩
      unfold loopF at po2
      cases e1 : t ps[i] π' with
      | none => rw [e1] at po2; exact po2.elim
      | some π2 =>
        rw [e1] at po2
        intro σ3 s3 t3 k3 n3
        have po3 := PoS.from (show PoS c w.W F2 π' σ' H2 ((fb π2).bind _) _ from po2) t3
        refine ⟨F2, π2, w.mono _ _ gr.le g1, s3, (PoS.splitS po3).mono fun fl π4 F4 σ4 H4 t4 s4 p4 => ?_⟩
        have again : PoS c w.W F4 π4 σ4 H4 (loopF t fb (ps.drop (i + 1)) π4) (flK c D π σ H) → (ps.length - (i + 1)) = ps.length - (i + 1) ∧ i + 1 ≤ ps.length ∧ ∃ F' π', Le F1 F' ∧ w.g F' ∧ SR c F' π' σ4 H4 ∧ Tr F π σ H F' π' σ4 H4 ∧ PoS c w.W F' π' σ4 H4 (loopF t fb (ps.drop (i + 1)) π') (flK c D π σ H) := fun q =>
          ⟨rfl, hlt, F4, π4, (l1.trans gr.le).trans t4.le, w.mono _ _ (gr.le.trans t4.le) g1, s4, (t2.trans t3).trans t4, q⟩
        cases fl with
        | nx => exact again p4
        | ct => exact again p4
        | bk => exact p4 F4 σ4 H4 .refl s4
        | rt r => exact flK.base (fl := .rt r) (p4 F4 σ4 H4 .refl s4) (t2.trans t3)
    · have e : i = ps.length := by omega
      subst e
      rw [List.drop_length] at po'
      exact .inl ⟨wk.stop H' (l1.trans s'.le), po' F' σ' H' .refl s'⟩
end
end PV

namespace PV
open PySem L2 PyProof.Rows

/-! ### sources -/
/-- a list or a tuple -/
def iTwo (K : PySem.W.Frag) (tl : TE) : TI := fun σ H R => tl σ H fun x H1 => (∃ a xs, x = .ref a ∧ SqL K H1 a xs ∧ (xs.length ≤ sizeLine → R (Itl K a) H1)) ∨ (∃ a xs, x = .ref a ∧ SqT K H1 a xs ∧ (xs.length ≤ sizeLine → R (Itt K a) H1))
theorem pi_two {X : Cx} {tg l : Expr} {tl : TE} (hl : PE X l tl) : PI X tg l (iTwo X.K tl) := by
  refine ⟨fun pins s σ H R I h => ?_⟩
  refine thn (hl.run pins s σ H _ I h) fun v s1 ⟨x, H1, I1, r1, q1⟩ => ?_
  rcases q1 with ⟨a, xs, e, hq, q⟩ | ⟨a, xs, e, hq, q⟩
  · subst e
    cases r1
    obtain ⟨its, rv, p, hz⟩ := I1.list hq
    refine wpAny_pyIter_list p.isList ?_
    refine ⟨s1.heap.objs.size, [s1.heap.objs.size], _, _, H1, rfl, I1.kept (t' := s1.toks) fun b o e => Heap.get?_push_of_some _ e, turn_list a _, ⟨_, Heap.get?_push_size _ rfl, rfl, rfl⟩, fun b hb => ?_, q hz⟩
    have e : b = s1.heap.objs.size := by simpa using hb
    subst e
    exact I1.fpOk (Nat.le_refl _) (I1.hok.fresh (Nat.le_refl _))
  · subst e
    cases r1
    obtain ⟨its, rv, p, hz⟩ := I1.tuple hq
    refine wpAny_pyIter_tuple (show s1.heap.IsTuple a its.toArray from p) ?_
    refine ⟨s1.heap.objs.size, [s1.heap.objs.size], _, _, H1, rfl, I1.kept (t' := s1.toks) fun b o e => Heap.get?_push_of_some _ e, turn_tuple a _, ⟨_, Heap.get?_push_size _ rfl, rfl, rfl⟩, fun b hb => ?_, q hz⟩
    have e : b = s1.heap.objs.size := by simpa using hb
    subst e
    exact I1.fpOk (Nat.le_refl _) (I1.hok.fresh (Nat.le_refl _))
section
variable {c : Ctx} {F : Hp} {a : Addr} {vs : List V} {ps : List P}
theorem get_rp (r : Rps c F ps vs) {i : Nat} {p : P} {x : V} (e : ps[i]? = some p) (e2 : vs[i]? = some x) : Rp c F p x := by
  obtain ⟨v, h1, h2⟩ := rps_get r e
  rw [e2] at h1
  cases h1
  exact h2
theorem wk_list (h : SqL c.K F a vs) (r : Rps c F ps vs) : Wk c F (Itl c.K a) ps where
  stop := fun G l => ⟨vs, l.sqL h, by rw [rps_len r]; exact Nat.le_refl _⟩
  go := fun i G l hi => ⟨vs, vs[i]'(by rw [← rps_len r]; exact hi), l.sqL h, List.getElem?_eq_getElem _⟩
  yld := fun i p F1 G x G' l1 l2 e y => by
    obtain ⟨rfl, y⟩ := y
    exact ⟨F1, Gr.refl l2, Rp.mono l1 _ _ (get_rp r e (y vs ((l1.trans l2).sqL h)))⟩
theorem wk_tup (h : SqT c.K F a vs) (r : Rps c F ps vs) : Wk c F (Itt c.K a) ps where
  stop := fun G l => ⟨vs, l.sqT h, by rw [rps_len r]; exact Nat.le_refl _⟩
  go := fun i G l hi => ⟨vs, vs[i]'(by rw [← rps_len r]; exact hi), l.sqT h, List.getElem?_eq_getElem _⟩
  yld := fun i p F1 G x G' l1 l2 e y => by
    obtain ⟨rfl, y⟩ := y
    exact ⟨F1, Gr.refl l2, Rp.mono l1 _ _ (get_rp r e (y vs ((l1.trans l2).sqT h)))⟩
end
def seqItems : P → Option (List P)
  | .lst ps => some ps
  | .tup ps => some ps
  | _ => none
def itR (p : P) : M (List P) := fun π => match seqItems p with
  | some ps => .ok ps π
  | none => .bad
def itF (f : M P) : M (List P) := fun π => (f π).bind itR
def rngP (lo hi : Int) : List P := (List.range (hi - lo).toNat).map fun (i : Nat) => P.int (lo + (i : Int))
def rng1R (rs : List Rs) : M (List P) := fun π => match rs with
  | [.val (.int j)] => if -8000000 ≤ j ∧ j ≤ 8000000 then .ok (rngP 0 j) π else .bad
  | _ => .bad
def rng2R (rs : List Rs) : M (List P) := fun π => match rs with
  | [.val (.int i), .val (.int j)] => if (-8000000 ≤ i ∧ i ≤ 8000000) ∧ -8000000 ≤ j ∧ j ≤ 8000000 then .ok (rngP i j) π else .bad
  | _ => .bad
def rng1F (fa : M (List Rs)) : M (List P) := fun π => (fa π).bind rng1R
def rng2F (fa : M (List Rs)) : M (List P) := fun π => (fa π).bind rng2R
theorem rng_len {lo hi : Int} (h1 : -8000000 ≤ lo) (h2 : hi ≤ 8000000) : (rngP lo hi).length ≤ sizeLine := by
  have := sizeLine_eq
  unfold rngP
  rw [List.length_map, List.length_range]
  omega
theorem wk_range {c : Ctx} {F : Hp} (lo hi : Int) : Wk c F (Itr lo (hi - lo).toNat) (rngP lo hi) where
  stop := fun G l => by show (hi - lo).toNat ≤ (rngP lo hi).length; unfold rngP; simp
  go := fun i G l hi' => by show i < (hi - lo).toNat; unfold rngP at hi'; simpa using hi'
  yld := fun i p F1 G x G' l1 l2 e y => by
    obtain ⟨rfl, y⟩ := y
    subst y
    refine ⟨F1, Gr.refl l2, ?_⟩
    unfold rngP at e
    rw [List.getElem?_map] at e
    cases q : (List.range (hi - lo).toNat)[i]? with
    | none => rw [q] at e; cases e
    | some j =>
      rw [q] at e
      have hj : j = i := by
        obtain ⟨h1, h2⟩ := List.getElem?_eq_some_iff.mp q
        rw [← h2]; simp
      subst hj
      cases e
      exact mk_int
section
variable {X : Cx} {c : Ctx} {w : Wi} {tg e e2 : Expr} {pos p : Pos} {f : M P} {fa : M (List Rs)}
theorem i_seq (hK : X.K = c.K) (he : PE X e (tV c w f)) : PI X tg e (tI c w (itF f)) := pi_weak (pi_two he) fun σ H R ⟨F, π, gg, s, po⟩ => by
  refine ⟨F, π, gg, s, (Po.split po).mono fun q π1 F1 H1 t1 s1 p1 v hr => ?_⟩
  rw [hK]
  unfold itR at p1
  cases q with
  | lst ps =>
    obtain ⟨a, vs, rfl, h1, h2⟩ := rp_lst hr
    exact .inl ⟨a, vs, rfl, .of (s1.le.lst h1), fun hz => p1 F1 H1 .refl s1 _ (wk_list (.of h1) h2) (by rw [rps_len h2]; exact hz)⟩
  | tup ps =>
    obtain ⟨a, vs, rfl, h1, h2⟩ := rp_tup hr
    exact .inr ⟨a, vs, rfl, s1.le.sqT h1, fun hz => p1 F1 H1 .refl s1 _ (wk_tup h1 h2) (by rw [rps_len h2]; exact hz)⟩
  | _ => exact p1.elim
theorem i_range1 (hg : Gl X "range") (hm : X.mg "range" = none) (ha : PA X [e] (tR c w fa)) (hs : starEach [e] X.env = [(false, eval e X.env)] := by rfl) : PI X tg (.Call (.Name "range" p) [e] [] pos) (tI c w (rng1F fa)) :=
  pi_weak (pi_range1 hg hm ha hs) fun σ H R ⟨F, π, gg, s, po⟩ => by
    refine ⟨F, π, gg, s, (Po.split po).mono fun rs π1 F1 H1 t1 s1 p1 vs hr => ?_⟩
    unfold rng1R at p1
    split at p1
    · rename_i j
      obtain ⟨v, l, rfl, h1, h2⟩ := hr
      have hl : l = [] := h2
      subst hl
      have hv : v = .int j := rp_int (show Rp c F1 (.int j) v from h1)
      subst hv
      split at p1
      · rename_i hb
        exact ⟨j, rfl, by omega, by omega, by have := p1 F1 H1 .refl s1 _ (wk_range 0 j) (rng_len (by omega) hb.2); simpa using this⟩
      · exact p1.elim
    · exact p1.elim
theorem i_range2 (hg : Gl X "range") (hm : X.mg "range" = none) (ha : PA X [e, e2] (tR c w fa)) (hs : starEach [e, e2] X.env = [(false, eval e X.env), (false, eval e2 X.env)] := by rfl) (hs2 : starEach [e2] X.env = [(false, eval e2 X.env)] := by rfl) :
    PI X tg (.Call (.Name "range" p) [e, e2] [] pos) (tI c w (rng2F fa)) :=
  pi_weak (pi_range2 hg hm ha hs hs2) fun σ H R ⟨F, π, gg, s, po⟩ => by
    refine ⟨F, π, gg, s, (Po.split po).mono fun rs π1 F1 H1 t1 s1 p1 vs hr => ?_⟩
    unfold rng2R at p1
    split at p1
    · rename_i i j
      obtain ⟨v, l, rfl, h1, v2, l2, rfl, h3, h4⟩ := hr
      have hl : l2 = [] := h4
      subst hl
      have hv : v = .int i := rp_int (show Rp c F1 (.int i) v from h1)
      have hv2 : v2 = .int j := rp_int (show Rp c F1 (.int j) v2 from h3)
      subst hv hv2
      split at p1
      · rename_i hb
        exact ⟨i, j, rfl, ⟨by omega, by omega, by omega, by omega⟩, p1 F1 H1 .refl s1 _ (wk_range i j) (rng_len hb.1.1 hb.2.2)⟩
      · exact p1.elim
    · exact p1.elim
end

/-! ### while -/
def whileF : Nat → M Bool → M Fl → M Fl
  | 0, _, _ => fun _ => .bad
  | n + 1, ft, fb => fun π => (ft π).bind fun b π1 => if b = true then (fb π1).bind (fun fl π2 => match fl with
      | .nx => whileF n ft fb π2
      | .ct => whileF n ft fb π2
      | .bk => .ok .nx π2
      | .rt r => .ok (.rt r) π2) else .ok .nx π1
theorem s_while {X : Cx} {c : Ctx} {w : Ws} {cnd : Expr} {body : List Stmt} {pos : Pos} {ft : M Bool} {fb : M Fl} (n : Nat) (hp : PassesOwn (model X.prog X.w) X.A X.env X.xe) (hc : PT X cnd (tT c w ft)) (hb : PSs X body (tS c w fb)) : PS X (.While cnd body [] pos) (tS c w (whileF n ft fb)) :=
  ps_weak (ps_while hp hc hb) fun D σ H ⟨F, π, gg, s, po⟩ => by
    refine ⟨fun m σ' H' => ∃ F' π', w.g F' ∧ SR c F' π' σ' H' ∧ Tr F π σ H F' π' σ' H' ∧ PoS c w.W F' π' σ' H' (whileF m ft fb π') (flK c D π σ H), ⟨n, F, π, gg, s, .refl, po⟩, ?_⟩
    rintro m σ1 H1 ⟨F1, π1, g1, s1, t1, p1⟩
    cases m with
    | zero => exact p1.elim
    | succ m =>
      refine ⟨F1, π1, g1, s1, (PoS.split p1).mono fun b π2 F2 H2 t2 s2 p2 => ?_⟩
      cases b with
      | false =>
        rw [if_neg Bool.false_ne_true] at p2 ⊢
        exact p2 F2 σ1 H2 .refl s2
      | true =>
        rw [if_pos rfl] at p2 ⊢
        refine ⟨fun σ' H' => ∃ F' π', w.g F' ∧ SR c F' π' σ' H' ∧ Tr F π σ H F' π' σ' H' ∧ PoS c w.W F' π' σ' H' (whileF m ft fb π') (flK c D π σ H), fun σ' H' q => ⟨m, Nat.lt_succ_self m, q⟩, ?_⟩
        refine ⟨F2, π2, w.mono _ _ t2.le g1, s2, (PoS.splitS p2).mono fun fl π4 F4 σ4 H4 t4 s4 p4 => ?_⟩
        cases fl with
        | nx => exact ⟨F4, π4, w.mono _ _ (t2.le.trans t4.le) g1, s4, (t1.trans t2).trans t4, p4⟩
        | ct => exact ⟨F4, π4, w.mono _ _ (t2.le.trans t4.le) g1, s4, (t1.trans t2).trans t4, p4⟩
        | bk => exact p4 F4 σ4 H4 .refl s4
        | rt r => exact flK.base (fl := .rt r) (p4 F4 σ4 H4 .refl s4) (t1.trans t2)

/-! ### comprehensions -/
/-- the slots of a comprehension's own names, emptied; put back -/
def wipeE (π : En) : List Nat → En
  | [] => π
  | v :: vs => (wipeE π vs).set v .no
def restE (π0 π : En) (vs : List Nat) : En := π.mapIdx fun j sl => if j ∈ vs then (match π0[j]? with
    | some (.val p) => .val p
    | _ => .no) else sl
def chk (vs : List Nat) (π : En) : Bool := vs.all fun v => match π[v]? with
  | none => false
  | some (.loan _) => false
  | some _ => true
/-- no exception may leave it -/
def lcLoop (t : TgF) (tt : M Bool) (fe : M P) (vs : List Nat) (π0 : En) : List P → List P → En → Out Rs
  | [], acc, π => .ok (.own (.lst acc)) (restE π0 π vs)
  | p :: ps, acc, π => match t p π with
    | none => .bad
    | some π1 => match tt π1 with
      | .ok false π2 => if chk vs π2 = true then lcLoop t tt fe vs π0 ps acc (wipeE π2 vs) else .bad
      | .ok true π2 => (match fe π2 with
        | .ok q π3 => if chk vs π3 = true then lcLoop t tt fe vs π0 ps (acc ++ [q]) (wipeE π3 vs) else .bad
        | _ => .bad)
      | _ => .bad
def lcF (fi : M (List P)) (t : TgF) (tt : M Bool) (fe : M P) (vs : List Nat) : M Rs := fun π => (fi π).bind fun ps π1 => if chk vs π1 = true then lcLoop t tt fe vs π1 ps [] (wipeE π1 vs) else .bad
def Ws.blk (w : Ws) : Ws := ⟨fun _ _ _ _ => False, w.g, w.mono⟩
section
variable {c : Ctx} {F F' H H' F0 H0 : Hp} {π π' π0 : En} {σ σ0 : L2.St} {vs : List Nat}
theorem wipeE_get : ∀ {vs : List Nat} {j : Nat}, (wipeE π vs)[j]? = if j ∈ vs ∧ j < π.length then some .no else π[j]?
  | [], j => by simp [wipeE]
  | v :: vs, j => by
    unfold wipeE
    have hl : (wipeE π vs).length = π.length := by
      clear wipeE_get
      induction vs with
      | nil => rfl
      | cons v vs ih => unfold wipeE; rw [List.length_set]; exact ih
    rw [List.getElem?_set, wipeE_get (vs := vs), hl]
    by_cases z : v = j
    · subst z
      by_cases h : v < π.length
      · simp [h]
      · simp [h]
    · by_cases h : j ∈ vs ∧ j < π.length
      · rw [if_neg z, if_pos h, if_pos ⟨List.mem_cons_of_mem _ h.1, h.2⟩]
      · rw [if_neg z, if_neg h, if_neg]
        rintro ⟨h1, h2⟩
        rcases List.mem_cons.mp h1 with e | e
        · exact z e.symm
        · exact h ⟨e, h2⟩
theorem wipe_get {σ : L2.St} : ∀ {vs : List Nat} {j : Nat}, (wipe σ vs)[j]? = if j ∈ vs ∧ j < σ.length then some none else σ[j]?
  | [], j => by simp [wipe]
  | v :: vs, j => by
    unfold wipe
    rw [List.getElem?_set, wipe_get (vs := vs), wipe_length]
    by_cases z : v = j
    · subst z
      by_cases h : v < σ.length
      · simp [h]
      · simp [h]
    · by_cases h : j ∈ vs ∧ j < σ.length
      · rw [if_neg z, if_pos h, if_pos ⟨List.mem_cons_of_mem _ h.1, h.2⟩]
      · rw [if_neg z, if_neg h, if_neg]
        rintro ⟨h1, h2⟩
        rcases List.mem_cons.mp h1 with e | e
        · exact z e.symm
        · exact h ⟨e, h2⟩
theorem chk_at (h : chk vs π = true) {v : Nat} (hv : v ∈ vs) : v < π.length ∧ ∀ o, π[v]? ≠ some (.loan o) := by
  have := List.all_eq_true.mp h v hv
  cases q : π[v]? with
  | none => rw [q] at this; cases this
  | some sl =>
    refine ⟨(List.getElem?_eq_some_iff.mp q).1, fun o e => ?_⟩
    cases e
    rw [q] at this; cases this
theorem wipe_ok (s : SR c F π σ H) : ∀ (vs : List Nat), (∀ v ∈ vs, v < π.length ∧ ∀ o, π[v]? ≠ some (.loan o)) → SR c F (wipeE π vs) (wipe σ vs) H ∧ ∀ F0 π0 σ0 H0, Tr F0 π0 σ0 H0 F π σ H → Tr F0 π0 σ0 H0 F (wipeE π vs) (wipe σ vs) H
  | [], _ => ⟨s, fun _ _ _ _ t => t⟩
  | v :: vs, h => by
    obtain ⟨s1, t1⟩ := wipe_ok s vs fun v' hv => h v' (List.mem_cons_of_mem _ hv)
    have hl : (wipeE π vs).length = π.length := by rw [s1.len, wipe_length, s.len]
    obtain ⟨h1, h2⟩ := h v List.mem_cons_self
    obtain ⟨s2, t2⟩ := s1.set (i := v) (by rw [hl]; exact h1) (fun o e => by
      rw [wipeE_get] at e
      split at e
      · cases e
      · exact h2 o e) .no none (fun p e => by cases e) (fun o e => by cases e) (fun o e => by cases e)
    exact ⟨s2, fun F0 π0 σ0 H0 t => t2 _ _ _ _ (t1 _ _ _ _ t) fun a e => by cases e⟩
/-- back in the comprehension's surroundings -/
theorem rest_ok (s : SR c F π σ H) (hc : chk vs π = true) (s' : SR c F' π' (wipe σ vs) H') (t : Tr F (wipeE π vs) (wipe σ vs) H F' π' (wipe σ vs) H') : SR c F' (restE π π' vs) σ H' ∧ Tr F π σ H F' (restE π π' vs) σ H' ∧ ∀ a, Own (restE π π' vs) σ a → Own π' (wipe σ vs) a := by
  have gr : ∀ j, (restE π π' vs)[j]? = (π'[j]?).map fun sl => if j ∈ vs then (match π[j]? with
    | some (.val p) => .val p
    | _ => .no) else sl := fun j => by unfold restE; rw [List.getElem?_mapIdx]
  have ow : ∀ (j : Nat) (sl : Sl) (o : O), (restE π π' vs)[j]? = some sl → sl.ow = some o → j ∉ vs ∧ π'[j]? = some sl := fun j sl o e1 e2 => by
    rw [gr] at e1
    cases q : π'[j]? with
    | none => rw [q] at e1; cases e1
    | some sl' =>
      rw [q] at e1
      by_cases z : j ∈ vs
      · have e3 : (match π[j]? with | some (.val p) => Sl.val p | _ => .no) = sl := by
          have := Option.some.inj e1
          simp only [if_pos z] at this
          exact this
        cases q2 : π[j]? with
        | none => rw [q2] at e3; subst e3; cases e2
        | some sl2 => rw [q2] at e3; cases sl2 <;> (subst e3; cases e2)
      · have e3 := Option.some.inj e1
        simp only [if_neg z] at e3
        exact ⟨z, by rw [e3]⟩
  have sg : ∀ j, j ∉ vs → (wipe σ vs)[j]? = σ[j]? := fun j z => by rw [wipe_get, if_neg fun h => z h.1]
  have ownW : ∀ a, Own (wipeE π vs) (wipe σ vs) a → Own π σ a := fun a ⟨j, sl, o, e1, e2, e3⟩ => by
    rw [wipeE_get] at e1
    rw [wipe_get] at e3
    split at e1
    · cases e1; cases e2
    · split at e3
      · cases e3
      · exact ⟨j, sl, o, e1, e2, e3⟩
  have ownR : ∀ a, Own (restE π π' vs) σ a → Own π' (wipe σ vs) a := fun a ⟨j, sl, o, e1, e2, e3⟩ => by
    obtain ⟨z, h1⟩ := ow j sl o e1 e2
    exact ⟨j, sl, o, h1, e2, by rw [sg j z]; exact e3⟩
  refine ⟨⟨s'.le, by unfold restE; rw [List.length_mapIdx, s'.len, wipe_length], fun j p e => ?_, fun j sl o e1 e2 => ?_, fun j k s1 s2 o1 o2 b e1 e2 e3 e4 e5 e6 => ?_⟩,
    ⟨t.le, fun a o h n => t.keep a o h fun z => n (ownW a z), fun a h => (t.new a h).imp id (Or.imp id (ownW a)), fun a h => (t.own a (ownR a h)).imp id (ownW a), fun j o e => ⟨rfl, ?_⟩⟩, ownR⟩
  · rw [gr] at e
    cases q : π'[j]? with
    | none => rw [q] at e; cases e
    | some sl' =>
      rw [q] at e
      have e3 := Option.some.inj e
      by_cases z : j ∈ vs
      · simp only [if_pos z] at e3
        cases q2 : π[j]? with
        | none => rw [q2] at e3; cases e3
        | some sl2 =>
          rw [q2] at e3
          cases sl2 with
          | val p' =>
            cases e3
            obtain ⟨v, e4, h1⟩ := s.vl j p q2
            exact ⟨v, e4, Rp.mono t.le _ _ h1⟩
          | no => cases e3
          | own o => cases e3
          | loan o => cases e3
      · simp only [if_neg z] at e3
        subst e3
        rw [← sg j z]
        exact s'.vl j p q
  · obtain ⟨z, h1⟩ := ow j sl o e1 e2
    rw [← sg j z]
    exact s'.ow j sl o h1 e2
  · obtain ⟨z1, h1⟩ := ow j s1 o1 e1 e2
    obtain ⟨z2, h2⟩ := ow k s2 o2 e3 e4
    exact s'.dj j k s1 s2 o1 o2 b h1 e2 h2 e4 (by rw [sg j z1]; exact e5) (by rw [sg k z2]; exact e6)
  · have z : j ∉ vs := fun z => (chk_at hc z).2 o e
    obtain ⟨_, o', h1⟩ := t.ln j o (by rw [wipeE_get, if_neg fun h => z h.1]; exact e)
    exact ⟨o', by rw [gr, h1]; show some (if j ∈ vs then _ else _) = _; rw [if_neg z]⟩
end
section
variable {c : Ctx} {F F0 H H0 : Hp} {π π0 : En} {σ σ0 : L2.St} {D : Addr} {o : HO}
theorem SR.other (s : SR c F π σ H) (hF : F D = none) (hn : ¬ Own π σ D) : SR c F π σ (L2.upd H D o) where
  le := s.le.updR _ hF
  len := s.len
  vl := s.vl
  ow := fun i sl o e1 e2 => by
    obtain ⟨b, e3, h1, h2⟩ := s.ow i sl o e1 e2
    exact ⟨b, e3, h1, h2.step (Le.refl F) fun u q => by rw [upd_ne fun z => hn ⟨i, sl, o, e1, e2, by rw [← z]; exact e3⟩]; exact q⟩
  dj := s.dj
theorem Tr.other (t : Tr F0 π0 σ0 H0 F π σ H) (h0 : H0 D = none) : Tr F0 π0 σ0 H0 F π σ (L2.upd H D o) :=
  ⟨t.le, fun a u h n => by rw [upd_ne (ne_of_none h h0)]; exact t.keep a u h n, t.new, t.own, t.ln⟩
end
def LcInv (c : Ctx) (w : Ws) (t : TgF) (tt : M Bool) (fe : M P) (vs : List Nat) (F1 : Hp) (π1 : En) (σ : L2.St) (H1 : Hp) (ps : List P) (K : Rs → En → Hp → Hp → Prop) (D : Addr) (i : Nat) (H' : Hp) : Prop :=
  ∃ F' π' acc va, Le F1 F' ∧ w.g F' ∧ SR c F' π' (wipe σ vs) H' ∧ H' D = some (.lst va) ∧ Rps c F' acc va ∧ acc.length ≤ i ∧ F' D = none ∧ ¬ Own π' (wipe σ vs) D ∧ Tr F1 (wipeE π1 vs) (wipe σ vs) H1 F' π' (wipe σ vs) H' ∧
    Po c w.W F1 π1 σ H1 (lcLoop t tt fe vs π1 (ps.drop i) acc π') K
section
variable {X : Cx} {c : Ctx} {w : Ws} {elt tg iter : Expr} {ifs : List Expr} {scope : Scope} {own : List (Str × Nat)} {pos : Pos} {fi : M (List P)} {t : TgF} {ft : M Bool} {fe : M P} {sl : List Nat}
theorem wipe_same {σ σ2 : L2.St} {vs : List Nat} (h : ∀ j, j ∉ vs → σ2[j]? = (wipe σ vs)[j]?) (hl : σ2.length = σ.length) : wipe σ2 vs = wipe σ vs := by
  apply List.ext_getElem?
  intro j
  rw [wipe_get, wipe_get, hl]
  by_cases z : j ∈ vs
  · by_cases q : j < σ.length
    · rw [if_pos ⟨z, q⟩, if_pos ⟨z, q⟩]
    · rw [if_neg fun h => q h.2, if_neg fun h => q h.2, List.getElem?_eq_none (by omega), List.getElem?_eq_none (by omega)]
  · rw [if_neg fun h => z h.1, if_neg fun h => z h.1, h j z, wipe_get, if_neg fun h => z h.1]
theorem lc_weak (hsl : ∀ j ∈ sl, j ∈ own.map (·.2)) : ∀ σ H Q, tE c w (lcF fi t ft fe (own.map (·.2))) σ H Q → tLc (tI c w fi) (tG c w.blk sl t) (tT c w.blk ft) (tV c w.blk fe) (own.map (·.2)) σ H Q := fun σ H Q ⟨F, π, gg, s, po⟩ => by
  generalize own.map (·.2) = vs at *
  refine ⟨F, π, gg, s, (Po.split po).mono fun ps π1 F1 H1 t1 s1 p1 J wk hlen D hD => ?_⟩
  by_cases hc : chk vs π1 = true
  case neg => rw [if_neg hc] at p1; exact p1.elim
  rw [if_pos hc] at p1
  have g1 := w.mono _ _ t1.le gg
  have gD : Gr F1 H1 F1 (L2.upd H1 D (.lst [])) := gr_lst s1.le hD
  obtain ⟨sw, tw⟩ := wipe_ok s1 vs fun v hv => chk_at hc hv
  have tw1 := tw _ _ _ _ (Tr.refl (F := F1) (π := π1) (σ := σ) (H := H1))
  have ownW : ∀ a, Own (wipeE π1 vs) (wipe σ vs) a → Own π1 σ a := fun a ⟨j, sl, o, e1, e2, e3⟩ => by
    rw [wipeE_get] at e1
    rw [wipe_get] at e3
    split at e1
    · cases e1; cases e2
    · split at e3
      · cases e3
      · exact ⟨j, sl, o, e1, e2, e3⟩
  refine ⟨fun i m H' => m = ps.length - i ∧ i ≤ ps.length ∧ LcInv c w t ft fe vs F1 π1 σ H1 ps (fun r π' F' H' => ∀ v, RR c π H F' π' σ H' r v → Q v H') D i H',
    ⟨_, rfl, Nat.zero_le _, F1, wipeE π1 vs, [], [], Le.refl _, g1, gD.sr sw, upd_same, rps_nil, Nat.le_refl _, s1.le.gone hD, fun z => ?_, gD.tr, p1⟩, ?_⟩
  · obtain ⟨u, hu⟩ := own_some sw z
    rw [hD] at hu; cases hu
  rintro i m H' ⟨rfl, hi, F', π', acc, va, l1, g', s', hDa, ra, hal, hFD, hnD, t', po'⟩
  by_cases hlt : i < ps.length
  · refine .inr ⟨wk.go i H' (l1.trans s'.le) hlt, fun H2 => (ps.length - (i + 1)) = ps.length - (i + 1) ∧ i + 1 ≤ ps.length ∧ LcInv c w t ft fe vs F1 π1 σ H1 ps (fun r π' F' H' => ∀ v, RR c π H F' π' σ H' r v → Q v H') D (i + 1) H2,
      fun H2 q => ⟨ps.length - (i + 1), by omega, q⟩, fun x H2 y => ?_⟩
    obtain ⟨F2, gr, rx⟩ := wk.yld i ps[i] F' H' x H2 l1 s'.le (List.getElem?_eq_getElem hlt) y
    rw [List.drop_eq_getElem_cons hlt] at po'
    have s2 := gr.sr s'
    have t2 := t'.trans (gr.tr (π := π') (σ := wipe σ vs))
    have hD2 : H2 D = some (.lst va) := gr.keep D _ hDa
    have hF2 : F2 D = none := by
      cases q : F2 D with
      | none => rfl
      | some x =>
        rcases gr.new D (by rw [q]; exact fun z => nomatch z) with z | z
        · exact absurd hFD z
        · rw [hDa] at z; cases z
    refine ⟨F2, π', ps[i], w.mono _ _ gr.le g', s2, rx, ?_⟩
    unfold lcLoop at po'
    cases e1 : t ps[i] π' with
    | none => simp only [e1] at po'; exact po'.elim
    | some π2 =>
      simp only [e1] at po'
      intro σ3 s3 t3 k3 n3
      have hw : wipe σ3 vs = wipe σ vs := wipe_same (fun j z => k3 j fun q => z (hsl j q)) (by rw [n3, wipe_length])
      have tb : Tr F' π' (wipe σ vs) H' F2 π2 σ3 H2 := (gr.tr (π := π') (σ := wipe σ vs)).trans t3
      refine ⟨hw, F2, π2, w.mono _ _ gr.le g', s3, ?_⟩
      -- where a turn ends
      have fin : ∀ {π4 : En} {F4 H4 : Hp}, chk vs π4 = true → Tr F2 π2 σ3 H2 F4 π4 σ3 H4 → SR c F4 π4 σ3 H4 → SR c F4 (wipeE π4 vs) (wipe σ vs) H4 ∧ Tr F1 (wipeE π1 vs) (wipe σ vs) H1 F4 (wipeE π4 vs) (wipe σ vs) H4 ∧ H4 D = some (.lst va) ∧ F4 D = none ∧ ¬ Own (wipeE π4 vs) (wipe σ vs) D := fun {π4 F4 H4} hc4 t4 s4 => by
        obtain ⟨s6, t6⟩ := wipe_ok s4 vs fun v hv => chk_at hc4 hv
        have tl := t6 _ _ _ _ (tb.trans t4)
        rw [hw] at s6 tl
        refine ⟨s6, t'.trans tl, tl.keep D _ hDa hnD, ?_, fun z => ?_⟩
        · cases q : F4 D with
          | none => rfl
          | some x =>
            rcases tl.new D (by rw [q]; exact fun z => nomatch z) with z | z | z
            · exact absurd hFD z
            · rw [hDa] at z; cases z
            · exact absurd z hnD
        · rcases tl.own D z with q | q
          · rw [hDa] at q; cases q
          · exact hnD q
      cases e2 : ft π2 with
      | bad => simp only [e2] at po'; exact po'.elim
      | exc C qs π4 => simp only [e2] at po'; exact po'.elim
      | ok b π4 =>
        intro F4 H4 t4 s4
        have l4 : Le F1 F4 := (l1.trans gr.le).trans t4.le
        have g4 := w.mono _ _ (gr.le.trans t4.le) g'
        cases b with
        | false =>
          simp only [e2] at po'
          by_cases hc4 : chk vs π4 = true
          case neg => rw [if_neg hc4] at po'; exact po'.elim
          rw [if_pos hc4] at po'
          obtain ⟨s6, tl, d1, d2, d3⟩ := fin hc4 t4 s4
          refine iteF ?_
          exact ⟨rfl, hlt, F4, _, acc, va, l4, g4, s6, d1, Rps.mono (gr.le.trans t4.le) _ _ ra, by omega, d2, d3, tl, po'⟩
        | true =>
          simp only [e2] at po'
          refine iteT ?_
          refine ⟨F4, π4, g4, s4, ?_⟩
          cases e3 : fe π4 with
          | bad => simp only [e3] at po'; exact po'.elim
          | exc C qs π5 => simp only [e3] at po'; exact po'.elim
          | ok q π5 =>
            simp only [e3] at po'
            by_cases hc5 : chk vs π5 = true
            case neg => rw [if_neg hc5] at po'; exact po'.elim
            rw [if_pos hc5] at po'
            intro F5 H5 t5 s5 y hy
            obtain ⟨s6, tl, d1, d2, d3⟩ := fin hc5 (t4.trans t5) s5
            have hva : va.length = acc.length := (rps_len ra).symm
            refine ⟨va, d1, by omega, rfl, hlt, F5, _, acc ++ [q], va ++ [y], l4.trans t5.le, w.mono _ _ t5.le g4, s6.other d2 d3, upd_same, rps_append (Rps.mono ((gr.le.trans t4.le).trans t5.le) _ _ ra) (rps_cons hy rps_nil), by simp; omega, d2, d3, tl.other hD, po'⟩
  · have e : i = ps.length := by omega
    subst e
    rw [List.drop_length] at po'
    obtain ⟨s5, t5, ow5⟩ := rest_ok s1 hc s' t'
    exact .inl ⟨wk.stop H' (l1.trans s'.le), po' F' H' t5 s5 _ ⟨D, rfl, hFD, fun z => hnD (ow5 D z), ⟨va, hDa, ra⟩, Fr0.back t1 (.inl hD)⟩⟩
theorem p_lc (hsl : ∀ j ∈ sl, j ∈ own.map (·.2)) (hc : X.calm = true) (hN : X.N.Nodup) (hi : PI X tg iter (tI c w fi)) (ok : BlkOk X.N X.env.scope scope own)
    (hg : ∀ (s : Shared) (H : Hp) (C : Addr) (cl : List (Str × Addr)) (fp : List Addr), PG (X.blk s H scope (compEnvC scope cl C X.env) fp) tg (tG c w.blk sl t)) (ht : ∀ (s : Shared) (H : Hp) (C : Addr) (cl : List (Str × Addr)) (fp : List Addr), PTs (X.blk s H scope (compEnvC scope cl C X.env) fp) ifs (tT c w.blk ft))
    (he : ∀ (s : Shared) (H : Hp) (C : Addr) (cl : List (Str × Addr)) (fp : List Addr), PE (X.blk s H scope (compEnvC scope cl C X.env) fp) elt (tV c w.blk fe)) (hs : ∀ x, foldedSetIterable iter X.env x = pure x := by intro _; rfl) :
    PE X (.ListComp elt [⟨tg, iter, ifs, 0⟩] scope pos) (tE c w (lcF fi t ft fe (own.map (·.2)))) := pe_weak (pe_lc hc hN hi ok hg ht he hs) (lc_weak hsl)
def yesF : M Bool := fun π => .ok true π
theorem t_yes {X : Cx} {c : Ctx} {w : Ws} : PTs X [] (tT c w yesF) := ⟨fun pins s σ H Q I ⟨F, π, gg, sr, po⟩ => pts_nil.run pins s σ H Q I (po F H .refl sr)⟩
theorem t_one {X : Cx} {c : Ctx} {w : Ws} {e : Expr} {f : M Bool} (h : PT X e (tT c w f)) : PTs X [e] (tT c w f) := pts_one h
/-- y = [..] on one line -/
theorem s_setLc {i : Nat} {y : Str} {py spos : Pos} (hsl : ∀ j ∈ sl, j ∈ own.map (·.2)) (hc : X.calm = true) (hN : X.N.Nodup) (hy : X.N[i]? = some y) (hyl : X.env.scope.names.lookup y = some .local)
    (hsw : swapsWith (.ListComp elt [⟨tg, iter, ifs, 0⟩] scope pos) (some (.Name y py)) spos.line X.env = pure true) (hi : PI X tg iter (tI c w fi)) (ok : BlkOk X.N X.env.scope scope own)
    (hg : ∀ (s : Shared) (H : Hp) (C : Addr) (cl : List (Str × Addr)) (fp : List Addr), PG (X.blk s H scope (compEnvC scope cl C X.env) fp) tg (tG c w.blk sl t)) (ht : ∀ (s : Shared) (H : Hp) (C : Addr) (cl : List (Str × Addr)) (fp : List Addr), PTs (X.blk s H scope (compEnvC scope cl C X.env) fp) ifs (tT c w.blk ft))
    (he : ∀ (s : Shared) (H : Hp) (C : Addr) (cl : List (Str × Addr)) (fp : List Addr), PE (X.blk s H scope (compEnvC scope cl C X.env) fp) elt (tV c w.blk fe)) (hs : ∀ x, foldedSetIterable iter X.env x = pure x := by intro _; rfl) :
    PS X (.Assign [.Name y py] (.ListComp elt [⟨tg, iter, ifs, 0⟩] scope pos) spos) (tS c w (setF i (lcF fi t ft fe (own.map (·.2))))) :=
  ps_weak (ps_setLc (i := i) hc hN hy hyl hsw hi ok hg ht he hs) fun D σ H ⟨F, π, gg, s, po⟩ => by
    refine lc_weak hsl σ H _ ⟨F, π, gg, s, ?_⟩
    unfold setF at po
    cases e0 : lcF fi t ft fe (own.map (·.2)) π with
    | bad => rw [e0] at po; exact po
    | exc C ps π1 => rw [e0] at po; exact fun F' H' d t s => po F' σ H' d t s
    | ok r π1 =>
      rw [e0] at po
      intro F1 H1 t s1 v hr
      obtain ⟨π', k⟩ := set_post s1 hr t po
      exact k
end
end PV

namespace PV
open PySem L2 PyProof.Rows

theorem OpR.or {X : Cx} {f : Value → Value → Sem Value} {r r' : R2} (h : OpR X f r) (h' : OpR X f r') : OpR X f (fun x y H Q => r x y H Q ∨ r' x y H Q) := by
  intro pins s σ H x y v u Q I rx ry q
  rcases q with q | q
  · exact h pins s σ H x y v u Q I rx ry q
  · exact h' pins s σ H x y v u Q I rx ry q
theorem CallR.or {X : Cx} {f : Value} {r r' : List V → Hp → VK → Prop} (h : CallR X f r) (h' : CallR X f r') : CallR X f (fun x H Q => r x H Q ∨ r' x H Q) := by
  intro pins s σ H x v Q I rx q
  rcases q with q | q
  · exact h pins s σ H x v Q I rx q
  · exact h' pins s σ H x v Q I rx q
abbrev ib (b : Bool) : Option Rv := some (.val (.bl b))
abbrev ii (i : Int) : Option Rv := some (.val (.int i))
section
variable {c : Ctx} {F H : Hp} {Q : VK} {v : V}
/-- the answer is a value without objects -/
theorem give {p : P} (l : Le F H) (k : ∀ v F' H', Gr F H F' H' → RN c H F' H' (.val p) v → Q v H') (h : Rp c F p v) : Q v H := k v F H (Gr.refl l) h
end

/-! ### + -/
def addP : P → P → Option Rv
  | .int i, .int j => ii (i + j)
  | .str x, .str y => if x.length + y.length ≤ 1000000 then some (.val (.str (x ++ y))) else none
  | .tup xs, .tup ys => if xs.length + ys.length ≤ 1000000 then some (.val (.tup (xs ++ ys))) else none
  | .lst xs, .lst ys => if xs.length + ys.length ≤ 1000000 then some (.own (.lst (xs ++ ys))) else none
  | _, _ => none
def rAdd4 (K : PySem.W.Frag) : R2 := fun x y H Q => (rI0 (fun i j => .int (i + j)) x y H Q ∨ (∃ i j, x = .str i ∧ y = .str j ∧ i.length + j.length ≤ sizeLine ∧ Q (.str (i ++ j)) H)) ∨ (rCatA K x y H Q ∨ rCat x y H Q)
theorem op_add4 {X : Cx} : OpR X (binaryOp .Add) (rAdd4 X.K) := OpR.or (OpR.or op_add op_add_str) (OpR.or op_catA op_cat)
theorem v_add {c : Ctx} : OpV c (rAdd4 c.K) addP := by
  intro F H p1 p2 x y res Q l h1 h2 e k
  have hs := sizeLine_eq
  unfold addP at e
  split at e
  · cases e
    cases h1.int; cases h2.int
    exact .inl (.inl ⟨_, _, rfl, rfl, give l k mk_int⟩)
  · split at e
    · cases e
      cases h1.str; cases h2.str
      exact .inl (.inr ⟨_, _, rfl, rfl, by omega, give l k mk_str⟩)
    · cases e
  · split at e
    · rename_i xs ys hl
      cases e
      obtain ⟨a, vs, rfl, q1, r1, p1⟩ := h1.tup l
      obtain ⟨b, ws, rfl, q2, r2, p2⟩ := h2.tup l
      have n1 := rps_len r1
      have n2 := rps_len r2
      refine .inr (.inl ⟨a, b, vs, ws, rfl, rfl, q1, q2, by omega, fun z => ?_, fun _ z => ?_, fun _ _ p hp => ?_⟩)
      · have z1 : xs = [] := List.eq_nil_of_length_eq_zero (by rw [n1, z]; rfl)
        subst z1
        exact give l k p2
      · have z1 : ys = [] := List.eq_nil_of_length_eq_zero (by rw [n2, z]; rfl)
        subst z1
        exact give l k (by rw [List.append_nil]; exact p1)
      · exact k _ _ _ (gr_tup l hp) (rn_tup l hp (rps_append r1 r2))
    · cases e
  · split at e
    · rename_i xs ys hl
      cases e
      obtain ⟨a, vs, rfl, q1, r1⟩ := h1.lst l
      obtain ⟨b, ws, rfl, q2, r2⟩ := h2.lst l
      have n1 := rps_len r1
      have n2 := rps_len r2
      exact .inr (.inr ⟨a, b, vs, ws, rfl, rfl, q1, q2, by omega, fun p hp => k _ _ _ (gr_lst l hp) (rn_lst l hp (rps_append r1 r2))⟩)
    · cases e
  · cases e
/-! ### ints -/
def subP : P → P → Option Rv
  | .int i, .int j => ii (i - j)
  | _, _ => none
theorem v_sub {c : Ctx} : OpV c (rI0 fun i j => .int (i - j)) subP := by
  intro F H p1 p2 x y res Q l h1 h2 e k
  unfold subP at e
  split at e
  · cases e
    cases h1.int; cases h2.int
    exact ⟨_, _, rfl, rfl, give l k mk_int⟩
  · cases e
def mulP : P → P → Option Rv
  | .int i, .int j => if i.natAbs.log2 + j.natAbs.log2 < 1000000 then ii (i * j) else none
  | .lst xs, .int j => if xs.length ≤ 1000 ∧ -1000 ≤ j ∧ j ≤ 1000 then some (.own (.lst (List.replicate j.toNat xs).flatten)) else none
  | .tup xs, .int j => if xs ≠ [] ∧ xs.length ≤ 1000 ∧ 2 ≤ j ∧ j ≤ 1000 then some (.val (.tup (List.replicate j.toNat xs).flatten)) else none
  | _, _ => none
theorem rps_rep {c : Ctx} {H : Hp} {ps : List P} {vs : List V} (r : Rps c H ps vs) : ∀ n : Nat, Rps c H (List.replicate n ps).flatten (List.replicate n vs).flatten
  | 0 => rps_nil
  | n + 1 => by
    rw [List.replicate_succ, List.replicate_succ, List.flatten_cons, List.flatten_cons]
    exact rps_append r (rps_rep r n)

def rMul3 (K : PySem.W.Frag) : R2 := fun x y H Q => rI CMulW (fun i j => .int (i * j)) x y H Q ∨ (rRep x y H Q ∨ rRepT K x y H Q)
theorem op_mul3 {X : Cx} : OpR X (binaryOp .Mult) (rMul3 X.K) := OpR.or op_mulW (OpR.or op_rep op_repT)
theorem v_mul {c : Ctx} : OpV c (rMul3 c.K) mulP := by
  intro F H p1 p2 x y res Q l h1 h2 e k
  have hs := sizeLine_eq
  unfold mulP at e
  split at e
  · split at e
    · rename_i hb
      cases e
      cases h1.int; cases h2.int
      exact .inl ⟨_, _, rfl, rfl, hb, give l k mk_int⟩
    · cases e
  · split at e
    · rename_i xs j hb
      cases e
      obtain ⟨a, vs, rfl, q1, r1⟩ := h1.lst l
      cases h2.int
      have n1 := rps_len r1
      refine .inr (.inl ⟨a, j, vs, rfl, rfl, q1, by omega, by omega, ?_, fun p hp => k _ _ _ (gr_lst l hp) (rn_lst l hp (rps_rep r1 _))⟩)
      have a1 : vs.length * j.toNat ≤ 1000 * 1000 := Nat.mul_le_mul (by omega) (by omega)
      omega
    · cases e
  · split at e
    · rename_i xs j hb
      cases e
      obtain ⟨a, vs, rfl, q1, r1, _⟩ := h1.tup l
      cases h2.int
      have n1 := rps_len r1
      exact .inr (.inr ⟨a, j, vs, rfl, rfl, q1, fun z => hb.1 (List.eq_nil_of_length_eq_zero (by rw [n1, z]; rfl)), hb.2.2.1, hb.2.2.2, by omega, fun p hp => k _ _ _ (gr_tup l hp) (rn_tup l hp (rps_rep r1 _))⟩)
    · cases e
  · cases e
def modP : P → P → Option Rv
  | .int i, .int j => if 0 < j then ii (i % j) else none
  | _, _ => none
theorem v_mod {c : Ctx} : OpV c (rI (fun _ j => 0 < j) fun i j => .int (i % j)) modP := by
  intro F H p1 p2 x y res Q l h1 h2 e k
  unfold modP at e
  split at e
  · split at e
    · rename_i hb
      cases e
      cases h1.int; cases h2.int
      exact ⟨_, _, rfl, rfl, hb, give l k mk_int⟩
    · cases e
  · cases e
def fdivP : P → P → Option Rv
  | .int i, .int j => if 0 < j ∧ j.natAbs.log2 < 9000 then ii (i / j) else none
  | _, _ => none
theorem v_fdiv {c : Ctx} : OpV c (rI CDivW fun i j => .int (i / j)) fdivP := by
  intro F H p1 p2 x y res Q l h1 h2 e k
  unfold fdivP at e
  split at e
  · split at e
    · rename_i hb
      cases e
      cases h1.int; cases h2.int
      exact ⟨_, _, rfl, rfl, hb, give l k mk_int⟩
    · cases e
  · cases e
def powP : P → P → Option Rv
  | .int i, .int j => if 0 ≤ j ∧ j ≤ 1000 ∧ i.natAbs < 2 ^ 64 then ii (i ^ j.toNat) else none
  | _, _ => none
theorem v_pow {c : Ctx} : OpV c (rI CPow fun i j => .int (i ^ j.toNat)) powP := by
  intro F H p1 p2 x y res Q l h1 h2 e k
  unfold powP at e
  split at e
  · split at e
    · rename_i hb
      cases e
      cases h1.int; cases h2.int
      exact ⟨_, _, rfl, rfl, ⟨hb.1, by omega, hb.2.2⟩, give l k mk_int⟩
    · cases e
  · cases e
def negP : P → Option Rv
  | .int i => ii (-i)
  | _ => none
theorem v_neg {c : Ctx} : UnV c (rU fun i => .int (-i)) negP := by
  intro F H p x res Q l h e k
  unfold negP at e
  split at e
  · cases e
    cases h.int
    exact ⟨_, rfl, give l k mk_int⟩
  · cases e
/-! ### order of ints -/
def cmpP (g : Int → Int → Bool) : P → P → Option Rv
  | .int i, .int j => ib (g i j)
  | _, _ => none
theorem v_cmp {c : Ctx} {g : Int → Int → Bool} : OpV c (rI0 fun i j => .bl (g i j)) (cmpP g) := by
  intro F H p1 p2 x y res Q l h1 h2 e k
  unfold cmpP at e
  split at e
  · cases e
    cases h1.int; cases h2.int
    exact ⟨_, _, rfl, rfl, give l k mk_bl⟩
  · cases e
def ltP := cmpP fun i j => decide (i < j)
def leP := cmpP fun i j => decide (i ≤ j)
def gtP := cmpP fun i j => decide (j < i)
def geP := cmpP fun i j => decide (j ≤ i)
/-! ### data -/
mutual
def toD : P → PyData
  | .non => .none
  | .bl b => .bool b
  | .int i => .int i
  | .str x => .str x
  | .tup xs => .tuple (toDs xs)
  | .lst xs => .list (toDs xs)
  | _ => .none
def toDs : List P → List PyData
  | [] => []
  | p :: ps => toD p :: toDs ps
end
theorem toDs_map : ∀ ps : List P, toDs ps = ps.map toD
  | [] => rfl
  | p :: ps => by unfold toDs; rw [toDs_map ps]; rfl
/-- data of depth up to n -/
def dat : Nat → P → Bool
  | _, .non => true
  | _, .bl _ => true
  | _, .int _ => true
  | _, .str x => PyData.strOk x
  | n + 1, .tup xs => xs.all (dat n)
  | n + 1, .lst xs => xs.all (dat n)
  | _, _ => false
theorem dat_lay : ∀ (n : Nat) (p : P), dat n p = true → (toD p).canLay0 = true ∧ (toD p).depth ≤ n
  | n, .non, _ => by unfold toD; exact ⟨rfl, by simp [PyData.depth]⟩
  | n, .bl _, _ => by unfold toD; exact ⟨rfl, by simp [PyData.depth]⟩
  | n, .int _, _ => by unfold toD; exact ⟨rfl, by simp [PyData.depth]⟩
  | n, .str x, h => by
    unfold toD
    refine ⟨?_, by simp [PyData.depth]⟩
    unfold dat at h
    unfold PyData.canLay0
    exact h
  | 0, .tup xs, h => by simp [dat] at h
  | 0, .lst xs, h => by simp [dat] at h
  | n + 1, .tup xs, h => by
    unfold dat at h
    have ih := fun q hq => dat_lay n q (List.all_eq_true.mp h q hq)
    have key : ∀ l : List P, (∀ q ∈ l, (toD q).canLay0 = true ∧ (toD q).depth ≤ n) → PyData.canLayAll0 (toDs l) = true ∧ PyData.depthAll (toDs l) ≤ n := by
      intro l
      induction l with
      | nil => intro _; exact ⟨rfl, by simp [toDs, PyData.depthAll]⟩
      | cons q l ihl =>
        intro hl
        obtain ⟨a, b⟩ := hl q List.mem_cons_self
        obtain ⟨a2, b2⟩ := ihl fun q hq => hl q (List.mem_cons_of_mem _ hq)
        unfold toDs PyData.canLayAll0 PyData.depthAll
        exact ⟨by rw [a, a2]; rfl, by omega⟩
    obtain ⟨a, b⟩ := key xs ih
    unfold toD PyData.canLay0 PyData.depth
    exact ⟨a, by omega⟩
  | n + 1, .lst xs, h => by
    unfold dat at h
    have ih := fun q hq => dat_lay n q (List.all_eq_true.mp h q hq)
    have key : ∀ l : List P, (∀ q ∈ l, (toD q).canLay0 = true ∧ (toD q).depth ≤ n) → PyData.canLayAll0 (toDs l) = true ∧ PyData.depthAll (toDs l) ≤ n := by
      intro l
      induction l with
      | nil => intro _; exact ⟨rfl, by simp [toDs, PyData.depthAll]⟩
      | cons q l ihl =>
        intro hl
        obtain ⟨a, b⟩ := hl q List.mem_cons_self
        obtain ⟨a2, b2⟩ := ihl fun q hq => hl q (List.mem_cons_of_mem _ hq)
        unfold toDs PyData.canLayAll0 PyData.depthAll
        exact ⟨by rw [a, a2]; rfl, by omega⟩
    obtain ⟨a, b⟩ := key xs ih
    unfold toD PyData.canLay0 PyData.depth
    exact ⟨a, by omega⟩
  | n, .dct .., h => by cases n <;> simp [dat] at h
  | n, .obj .., h => by cases n <;> simp [dat] at h
  | n, .fn .., h => by cases n <;> simp [dat] at h
  | n, .scr .., h => by cases n <;> simp [dat] at h
  | n, .ty .., h => by cases n <;> simp [dat] at h
  | n, .cls .., h => by cases n <;> simp [dat] at h
theorem dat_shaped {p : P} (h : dat 60 p = true) : SeqAt.shaped (toD p) = true := by
  obtain ⟨a, b⟩ := dat_lay 60 p h
  unfold SeqAt.shaped
  rw [a, decide_eq_true (by omega)]
  rfl
mutual
theorem dp_of {c : Ctx} {H : Hp} : ∀ (n : Nat) (p : P) (v : V), dat n p = true → Rp c H p v → Dp c.K H v (toD p)
  | _, .non, _, _, r => by rw [rp_non r]; unfold toD; exact .non
  | _, .bl b, _, _, r => by rw [rp_bl r]; unfold toD; exact .bl b
  | _, .int i, _, _, r => by rw [rp_int r]; unfold toD; exact .int i
  | _, .str x, _, _, r => by rw [rp_str r]; unfold toD; exact .str x
  | 0, .tup xs, _, h, _ => by simp [dat] at h
  | 0, .lst xs, _, h, _ => by simp [dat] at h
  | n + 1, .tup xs, _, h, r => by
    obtain ⟨a, vs, rfl, q, r2⟩ := rp_tup r
    unfold dat at h
    unfold toD
    exact .tup q (dps_of n xs vs h r2)
  | n + 1, .lst xs, _, h, r => by
    obtain ⟨a, vs, rfl, q, r2⟩ := rp_lst r
    unfold dat at h
    unfold toD
    exact .lst (.of q) (dps_of n xs vs h r2)
  | n, .dct .., _, h, _ => by cases n <;> simp [dat] at h
  | n, .obj .., _, h, _ => by cases n <;> simp [dat] at h
  | n, .fn .., _, h, _ => by cases n <;> simp [dat] at h
  | n, .scr .., _, h, _ => by cases n <;> simp [dat] at h
  | n, .ty .., _, h, _ => by cases n <;> simp [dat] at h
  | n, .cls .., _, h, _ => by cases n <;> simp [dat] at h
theorem dps_of {c : Ctx} {H : Hp} : ∀ (n : Nat) (ps : List P) (vs : List V), ps.all (dat n) = true → Rps c H ps vs → DpAll c.K H vs (toDs ps)
  | _, [], _, _, r => by rw [rps_nil_inv r]; unfold toDs; exact .nil
  | n, p :: ps, _, h, r => by
    obtain ⟨v, l, rfl, r1, r2⟩ := rps_inv r
    rw [List.all_cons, Bool.and_eq_true] at h
    unfold toDs
    exact .cons (dp_of n p v h.1 r1) (dps_of n ps l h.2 r2)
end
def eqv (p q : P) : Bool := PyData.eqv (toD p) (toD q)
def eqP (p q : P) : Option Rv := if dat 60 p = true ∧ dat 60 q = true then ib (eqv p q) else none
def neP (p q : P) : Option Rv := if dat 60 p = true ∧ dat 60 q = true then ib (!eqv p q) else none
theorem v_eq {c : Ctx} : OpV c (rEqD c.K) eqP := by
  intro F H p1 p2 x y res Q l h1 h2 e k
  unfold eqP at e
  split at e
  · rename_i hd
    cases e
    exact ⟨_, _, dp_of 60 p1 x hd.1 (h1.rpH l), dp_of 60 p2 y hd.2 (h2.rpH l), dat_shaped hd.1, dat_shaped hd.2, give l k mk_bl⟩
  · cases e
theorem v_ne {c : Ctx} : OpV c (rNeD c.K) neP := by
  intro F H p1 p2 x y res Q l h1 h2 e k
  unfold neP at e
  split at e
  · rename_i hd
    cases e
    exact ⟨_, _, dp_of 60 p1 x hd.1 (h1.rpH l), dp_of 60 p2 y hd.2 (h2.rpH l), dat_shaped hd.1, dat_shaped hd.2, give l k mk_bl⟩
  · cases e
/-! x in xs (a list) -/
def inLP (neg : Bool) : P → P → Option Rv
  | p, .lst ps => if dat 60 p = true ∧ dat 60 (.lst ps) = true then ib (if neg = true then !ps.any (fun z => eqv z p) else ps.any fun z => eqv z p) else none
  | _, _ => none
theorem any_toD {p : P} : ∀ ps : List P, ((toDs ps).any fun z => PyData.eqv z (toD p)) = ps.any fun z => eqv z p
  | [] => rfl
  | q :: ps => by unfold toDs; rw [List.any_cons, List.any_cons, any_toD ps]; rfl
theorem v_inL {c : Ctx} : OpV c (rInD c.K) (inLP false) := by
  intro F H p1 p2 x y res Q l h1 h2 e k
  unfold inLP at e
  split at e
  · rename_i ps
    split at e
    · rename_i hd
      cases e
      have d2 := dp_of 60 (.lst ps) y hd.2 (h2.rpH l)
      have s2 := dat_shaped hd.2
      unfold toD at d2 s2
      exact ⟨_, _, dp_of 60 p1 x hd.1 (h1.rpH l), d2, dat_shaped hd.1, s2, by rw [any_toD]; exact give l k mk_bl⟩
    · cases e
  · cases e
theorem v_ninL {c : Ctx} : OpV c (rNotInD c.K) (inLP true) := by
  intro F H p1 p2 x y res Q l h1 h2 e k
  unfold inLP at e
  split at e
  · rename_i ps
    split at e
    · rename_i hd
      cases e
      have d2 := dp_of 60 (.lst ps) y hd.2 (h2.rpH l)
      have s2 := dat_shaped hd.2
      unfold toD at d2 s2
      exact ⟨_, _, dp_of 60 p1 x hd.1 (h1.rpH l), d2, dat_shaped hd.1, s2, by rw [any_toD]; exact give l k mk_bl⟩
    · cases e
  · cases e
/-! is None -/
def P.isNon : P → Bool
  | .non => true
  | _ => false
def isNP (neg : Bool) : P → P → Option Rv
  | p, .non => ib (if neg = true then !p.isNon else p.isNon)
  | _, _ => none
theorem non_iff {c : Ctx} {H : Hp} {p : P} {v : V} (r : Rp c H p v) : decide (v = .non) = p.isNon := by
  cases p with
  | non => rw [rp_non r]; rfl
  | bl b => rw [rp_bl r]; rfl
  | int i => rw [rp_int r]; rfl
  | str x => rw [rp_str r]; rfl
  | tup ps => obtain ⟨a, vs, rfl, _⟩ := rp_tup r; rfl
  | lst ps => obtain ⟨a, vs, rfl, _⟩ := rp_lst r; rfl
  | dct t ks ws => unfold Rp at r; obtain ⟨a, vs, rfl, _⟩ := r; rfl
  | obj C ps => obtain ⟨a, dx, vs, rfl, _⟩ := rp_obj r; rfl
  | fn f => rw [rp_fn r]; rfl
  | scr ns => obtain ⟨a, rfl, _⟩ := rp_scr r; rfl
  | ty n => rw [rp_ty r]; rfl
  | cls C => rw [rp_cls r]; rfl
theorem v_isN {c : Ctx} : OpV c (fun x y H Q => y = .non ∧ Q (.bl (decide (x = .non))) H) (isNP false) := by
  intro F H p1 p2 x y res Q l h1 h2 e k
  unfold isNP at e
  split at e
  · cases e
    refine ⟨h2.non, ?_⟩
    rw [non_iff (h1.rpH l)]
    exact give l k mk_bl
  · cases e
theorem v_notN {c : Ctx} : OpV c (fun x y H Q => y = .non ∧ Q (.bl (!decide (x = .non))) H) (isNP true) := by
  intro F H p1 p2 x y res Q l h1 h2 e k
  unfold isNP at e
  split at e
  · cases e
    refine ⟨h2.non, ?_⟩
    rw [non_iff (h1.rpH l)]
    exact give l k mk_bl
  · cases e
/-! ### xs[i] -/
def ixP : P → P → Option Rv
  | .lst ps, .int i => (atI ps i).map .val
  | .tup ps, .int i => (atI ps i).map .val
  | .scr ns, .int i => (atI ns i).map fun n => .val (.int n)
  | .str x, .int i => if x.length ≤ 1000000 then (atI x.cps.toList i).map fun n => .val (.str ⟨#[n]⟩) else none
  | _, _ => none
theorem rps_atI {c : Ctx} {H : Hp} {ps : List P} {vs : List V} {i : Int} {p : P} (r : Rps c H ps vs) (e : atI ps i = some p) : ∃ v, atI vs i = some v ∧ Rp c H p v := by
  have n := rps_len r
  unfold atI at e ⊢
  rw [← n]
  cases q : ixN ps.length i with
  | none => rw [q] at e; cases e
  | some j =>
    rw [q] at e
    exact rps_get r e
theorem v_ix {c : Ctx} : OpV c (rIx c.K) ixP := by
  intro F H p1 p2 x y res Q l h1 h2 e k
  have hs := sizeLine_eq
  unfold ixP at e
  split at e
  · rename_i ps i
    obtain ⟨a, vs, rfl, q, r⟩ := h1.lst l
    cases h2.int
    cases e1 : atI ps i with
    | none => rw [e1] at e; cases e
    | some p =>
      rw [e1] at e
      cases e
      obtain ⟨v, e2, rv⟩ := rps_atI r e1
      exact .inl ⟨a, vs, i, v, rfl, rfl, .of q, e2, give l k rv⟩
  · rename_i ps i
    obtain ⟨a, vs, rfl, q, r, _⟩ := h1.tup l
    cases h2.int
    cases e1 : atI ps i with
    | none => rw [e1] at e; cases e
    | some p =>
      rw [e1] at e
      cases e
      obtain ⟨v, e2, rv⟩ := rps_atI r e1
      exact .inr (.inl ⟨a, vs, i, v, rfl, rfl, q, e2, give l k rv⟩)
  · rename_i ns i
    obtain ⟨a, rfl, q⟩ := rp_scr (h1.rpH l)
    cases h2.int
    cases e1 : atI ns i with
    | none => rw [e1] at e; cases e
    | some n =>
      rw [e1] at e
      cases e
      refine .inl ⟨a, _, i, .int n, rfl, rfl, q, ?_, give l k mk_int⟩
      unfold atI at e1 ⊢
      rw [List.length_map]
      cases z : ixN ns.length i with
      | none => rw [z] at e1; cases e1
      | some j =>
        rw [z] at e1
        have e3 : ns[j]? = some n := e1
        show (ns.map V.int)[j]? = _
        rw [List.getElem?_map, e3]; rfl
  · rename_i z i
    split at e
    · rename_i hz
      cases h1.str
      cases h2.int
      cases e1 : atI z.cps.toList i with
      | none => rw [e1] at e; cases e
      | some n =>
        rw [e1] at e
        cases e
        exact .inr (.inr ⟨z, i, n, rfl, rfl, by omega, e1, give l k mk_str⟩)
    · cases e
  · cases e
/-! ### calls -/
def lenP : List P → Option Rv
  | [.lst ps] => ii ps.length
  | [.tup ps] => ii ps.length
  | [.scr ns] => ii ns.length
  | [.str x] => if x.length ≤ 1000000 then ii x.length else none
  | _ => none
def rLen2 (K : PySem.W.Frag) : List V → Hp → VK → Prop := fun xs H Q => (∃ p ys, xs = [.ref p] ∧ (SqL K H p ys ∨ SqT K H p ys) ∧ Q (.int ys.length) H) ∨ (∃ z, xs = [.str z] ∧ z.length ≤ sizeLine ∧ Q (.int z.length) H)
theorem cl_len {X : Cx} : CallR X (.builtin "len") (rLen2 X.K) := CallR.or call_len_seq call_len_str
theorem rbs1 {c : Ctx} {F H : Hp} {p : P} {xs : List V} (h : Rbs c F H [p] xs) : ∃ v, xs = [v] ∧ Rb c F H p v := by
  obtain ⟨v, l, rfl, h1, h2⟩ := h
  have : l = [] := h2
  subst this
  exact ⟨v, rfl, h1⟩
theorem rbs2 {c : Ctx} {F H : Hp} {p q : P} {xs : List V} (h : Rbs c F H [p, q] xs) : ∃ v w, xs = [v, w] ∧ Rb c F H p v ∧ Rb c F H q w := by
  obtain ⟨v, l, rfl, h1, h2⟩ := h
  obtain ⟨w, rfl, h3⟩ := rbs1 h2
  exact ⟨v, w, rfl, h1, h3⟩
theorem v_len {c : Ctx} : CalV c (rLen2 c.K) lenP := by
  intro F H ps xs res Q l h e k
  have hs := sizeLine_eq
  unfold lenP at e
  split at e
  · cases e
    obtain ⟨v, rfl, h1⟩ := rbs1 h
    obtain ⟨a, vs, rfl, q, r⟩ := h1.lst l
    refine .inl ⟨a, vs, rfl, .inl (.of q), ?_⟩
    rw [← rps_len r]
    exact give l k mk_int
  · cases e
    obtain ⟨v, rfl, h1⟩ := rbs1 h
    obtain ⟨a, vs, rfl, q, r, _⟩ := h1.tup l
    refine .inl ⟨a, vs, rfl, .inr q, ?_⟩
    rw [← rps_len r]
    exact give l k mk_int
  · cases e
    obtain ⟨v, rfl, h1⟩ := rbs1 h
    obtain ⟨a, rfl, q⟩ := rp_scr (h1.rpH l)
    refine .inl ⟨a, _, rfl, .inl q, ?_⟩
    rw [List.length_map]
    exact give l k mk_int
  · split at e
    · rename_i z hz
      cases e
      obtain ⟨v, rfl, h1⟩ := rbs1 h
      cases h1.str
      exact .inr ⟨z, rfl, by omega, give l k mk_int⟩
    · cases e
  · cases e
def absP : List P → Option Rv
  | [.int i] => ii (if i < 0 then -i else i)
  | _ => none
theorem v_abs {c : Ctx} : CalV c (fun xs H Q => ∃ i, xs = [.int i] ∧ Q (.int (if i < 0 then -i else i)) H) absP := by
  intro F H ps xs res Q l h e k
  unfold absP at e
  split at e
  · cases e
    obtain ⟨v, rfl, h1⟩ := rbs1 h
    cases h1.int
    exact ⟨_, rfl, give l k mk_int⟩
  · cases e
def intP : List P → Option Rv
  | [.int i] => ii i
  | [.bl b] => ii (if b = true then 1 else 0)
  | _ => none
theorem v_int {c : Ctx} : CalV c (fun xs H Q => (∃ i, xs = [.int i] ∧ Q (.int i) H) ∨ ∃ k, xs = [.bl k] ∧ Q (.int (if k then 1 else 0)) H) intP := by
  intro F H ps xs res Q l h e k
  unfold intP at e
  split at e
  · cases e
    obtain ⟨v, rfl, h1⟩ := rbs1 h
    cases h1.int
    exact .inl ⟨_, rfl, give l k mk_int⟩
  · cases e
    obtain ⟨v, rfl, h1⟩ := rbs1 h
    cases h1.bl
    exact .inr ⟨_, rfl, give l k mk_int⟩
  · cases e
def tupleP : List P → Option Rv
  | [.lst ps] => some (.val (.tup ps))
  | [.tup ps] => some (.val (.tup ps))
  | _ => none
theorem v_tuple {c : Ctx} : CalV c (fun xs H Q => ∃ p ys, xs = [.ref p] ∧ ((SqL c.K H p ys ∧ ∀ l, H l = none → Q (.ref l) (L2.upd H l (.tup ys))) ∨ (SqT c.K H p ys ∧ Q (.ref p) H))) tupleP := by
  intro F H ps xs res Q l h e k
  unfold tupleP at e
  split at e
  · cases e
    obtain ⟨v, rfl, h1⟩ := rbs1 h
    obtain ⟨a, vs, rfl, q, r⟩ := h1.lst l
    exact ⟨a, vs, rfl, .inl ⟨.of q, fun p hp => k _ _ _ (gr_tup l hp) (rn_tup l hp r)⟩⟩
  · cases e
    obtain ⟨v, rfl, h1⟩ := rbs1 h
    obtain ⟨a, vs, rfl, q, r, z⟩ := h1.tup l
    exact ⟨a, vs, rfl, .inr ⟨q, give l k z⟩⟩
  · cases e
def listP : List P → Option Rv
  | [.lst ps] => some (.own (.lst ps))
  | [.tup ps] => some (.own (.lst ps))
  | _ => none
theorem v_list {c : Ctx} : CalV c (fun xs H Q => ∃ p ys, xs = [.ref p] ∧ (SqL c.K H p ys ∨ SqT c.K H p ys) ∧ ∀ l, H l = none → Q (.ref l) (L2.upd H l (.lst ys))) listP := by
  intro F H ps xs res Q l h e k
  unfold listP at e
  split at e
  · cases e
    obtain ⟨v, rfl, h1⟩ := rbs1 h
    obtain ⟨a, vs, rfl, q, r⟩ := h1.lst l
    exact ⟨a, vs, rfl, .inl (.of q), fun p hp => k _ _ _ (gr_lst l hp) (rn_lst l hp r)⟩
  · cases e
    obtain ⟨v, rfl, h1⟩ := rbs1 h
    obtain ⟨a, vs, rfl, q, r, z⟩ := h1.tup l
    exact ⟨a, vs, rfl, .inr q, fun p hp => k _ _ _ (gr_lst l hp) (rn_lst l hp r)⟩
  · cases e
/-- ints of a row -/
def intsOf : List P → Option (List Int)
  | [] => some []
  | .int i :: ps => (intsOf ps).map (i :: ·)
  | _ => none
theorem ints_rps {c : Ctx} {H : Hp} : ∀ {ps : List P} {ns : List Int} {vs : List V}, intsOf ps = some ns → Rps c H ps vs → vs = ns.map V.int
  | [], _, _, e, r => by cases e; exact rps_nil_inv r
  | p :: ps, _, _, e, r => by
    cases p with
    | int i =>
      unfold intsOf at e
      cases e1 : intsOf ps with
      | none => rw [e1] at e; cases e
      | some ns =>
        rw [e1] at e
        cases e
        obtain ⟨v, l, rfl, r1, r2⟩ := rps_inv r
        rw [rp_int r1, ints_rps e1 r2]; rfl
    | _ => cases e
theorem intsOf_map (ns : List Int) : intsOf (ns.map .int) = some ns := by
  induction ns with
  | nil => rfl
  | cons n ns ih => show (intsOf (ns.map .int)).map (n :: ·) = _; rw [ih]; rfl
def maxI : List Int → Int
  | [] => 0
  | n :: ns => ns.foldl max n
def minI : List Int → Int
  | [] => 0
  | n :: ns => ns.foldl min n
theorem foldl_max : ∀ (ns : List Int) (n : Int), (n ≤ ns.foldl max n ∧ ∀ y ∈ ns, y ≤ ns.foldl max n) ∧ (ns.foldl max n = n ∨ ns.foldl max n ∈ ns)
  | [], n => ⟨⟨Int.le_refl n, fun y h => by cases h⟩, .inl rfl⟩
  | m :: ns, n => by
    obtain ⟨⟨h1, h2⟩, h3⟩ := foldl_max ns (max n m)
    refine ⟨⟨by show n ≤ ns.foldl max (max n m); omega, fun y hy => ?_⟩, ?_⟩
    · show y ≤ ns.foldl max (max n m)
      rcases List.mem_cons.mp hy with e | e
      · subst e; omega
      · exact h2 y e
    · show ns.foldl max (max n m) = n ∨ _
      rcases h3 with e | e
      · rw [List.foldl_cons, e]
        by_cases z : n ≤ m
        · exact .inr (by rw [Int.max_eq_right z]; exact List.mem_cons_self)
        · exact .inl (Int.max_eq_left (by omega))
      · exact .inr (List.mem_cons_of_mem _ e)
theorem foldl_min : ∀ (ns : List Int) (n : Int), (ns.foldl min n ≤ n ∧ ∀ y ∈ ns, ns.foldl min n ≤ y) ∧ (ns.foldl min n = n ∨ ns.foldl min n ∈ ns)
  | [], n => ⟨⟨Int.le_refl n, fun y h => by cases h⟩, .inl rfl⟩
  | m :: ns, n => by
    obtain ⟨⟨h1, h2⟩, h3⟩ := foldl_min ns (min n m)
    refine ⟨⟨by show ns.foldl min (min n m) ≤ n; omega, fun y hy => ?_⟩, ?_⟩
    · show ns.foldl min (min n m) ≤ y
      rcases List.mem_cons.mp hy with e | e
      · subst e; omega
      · exact h2 y e
    · show ns.foldl min (min n m) = n ∨ _
      rcases h3 with e | e
      · rw [List.foldl_cons, e]
        by_cases z : n ≤ m
        · exact .inl (Int.min_eq_left z)
        · exact .inr (by rw [Int.min_eq_right (by omega)]; exact List.mem_cons_self)
      · exact .inr (List.mem_cons_of_mem _ e)
theorem maxI_spec {ns : List Int} (h : 0 < ns.length) : maxI ns ∈ ns ∧ ∀ y ∈ ns, y ≤ maxI ns := by
  cases ns with
  | nil => simp at h
  | cons n ns =>
    obtain ⟨⟨h1, h2⟩, h3⟩ := foldl_max ns n
    refine ⟨?_, fun y hy => ?_⟩
    · rcases h3 with e | e
      · show ns.foldl max n ∈ _; rw [e]; exact List.mem_cons_self
      · exact List.mem_cons_of_mem _ e
    · rcases List.mem_cons.mp hy with e | e
      · subst e; exact h1
      · exact h2 y e
theorem minI_spec {ns : List Int} (h : 0 < ns.length) : minI ns ∈ ns ∧ ∀ y ∈ ns, minI ns ≤ y := by
  cases ns with
  | nil => simp at h
  | cons n ns =>
    obtain ⟨⟨h1, h2⟩, h3⟩ := foldl_min ns n
    refine ⟨?_, fun y hy => ?_⟩
    · rcases h3 with e | e
      · show ns.foldl min n ∈ _; rw [e]; exact List.mem_cons_self
      · exact List.mem_cons_of_mem _ e
    · rcases List.mem_cons.mp hy with e | e
      · subst e; exact h1
      · exact h2 y e
def onInts (g : List Int → Option Rv) : List P → Option Rv
  | [.lst ps] => (intsOf ps).bind g
  | _ => none
def sumP := onInts fun ns => ii ns.sum
def maxLP := onInts fun ns => if 0 < ns.length then ii (maxI ns) else none
def minLP := onInts fun ns => if 0 < ns.length then ii (minI ns) else none
theorem onInts_post {c : Ctx} {F H : Hp} {ps : List P} {xs : List V} {g : List Int → Option Rv} {res : Rv} (l : Le F H) (h : Rbs c F H ps xs) (e : onInts g ps = some res) : ∃ a ns, xs = [.ref a] ∧ SqL c.K H a (ns.map V.int) ∧ g ns = some res := by
  unfold onInts at e
  split at e
  · rename_i qs
    obtain ⟨v, rfl, h1⟩ := rbs1 h
    obtain ⟨a, vs, rfl, q, r⟩ := h1.lst l
    cases e1 : intsOf qs with
    | none => rw [e1] at e; cases e
    | some ns =>
      rw [e1] at e
      have := ints_rps e1 r
      subst this
      exact ⟨a, ns, rfl, .of q, e⟩
  · cases e
theorem v_sum {c : Ctx} : CalV c (rSum c.K) sumP := by
  intro F H ps xs res Q l h e k
  obtain ⟨a, ns, rfl, q, e⟩ := onInts_post l h e
  cases e
  exact ⟨a, ns, rfl, q, give l k mk_int⟩
theorem v_maxL {c : Ctx} : CalV c (rMax c.K) maxLP := by
  intro F H ps xs res Q l h e k
  obtain ⟨a, ns, rfl, q, e⟩ := onInts_post l h e
  split at e
  · rename_i hn
    cases e
    refine ⟨a, ns, rfl, q, hn, fun m h1 h2 => ?_⟩
    obtain ⟨h3, h4⟩ := maxI_spec hn
    have := h2 _ h3
    have := h4 _ h1
    rw [show m = maxI ns by omega]
    exact give l k mk_int
  · cases e
theorem v_minL {c : Ctx} : CalV c (rMin c.K) minLP := by
  intro F H ps xs res Q l h e k
  obtain ⟨a, ns, rfl, q, e⟩ := onInts_post l h e
  split at e
  · rename_i hn
    cases e
    refine ⟨a, ns, rfl, q, hn, fun m h1 h2 => ?_⟩
    obtain ⟨h3, h4⟩ := minI_spec hn
    have := h2 _ h3
    have := h4 _ h1
    rw [show m = minI ns by omega]
    exact give l k mk_int
  · cases e
def max2P : List P → Option Rv
  | [.int i, .int j] => ii (if j > i then j else i)
  | _ => none
def min2P : List P → Option Rv
  | [.int i, .int j] => ii (if j < i then j else i)
  | _ => none
theorem v_max2 {c : Ctx} : CalV c (fun xs H Q => ∃ i j, xs = [.int i, .int j] ∧ Q (.int (if j > i then j else i)) H) max2P := by
  intro F H ps xs res Q l h e k
  unfold max2P at e
  split at e
  · cases e
    obtain ⟨v, w, rfl, h1, h2⟩ := rbs2 h
    cases h1.int; cases h2.int
    exact ⟨_, _, rfl, give l k mk_int⟩
  · cases e
theorem v_min2 {c : Ctx} : CalV c (fun xs H Q => ∃ i j, xs = [.int i, .int j] ∧ Q (.int (if j < i then j else i)) H) min2P := by
  intro F H ps xs res Q l h e k
  unfold min2P at e
  split at e
  · cases e
    obtain ⟨v, w, rfl, h1, h2⟩ := rbs2 h
    cases h1.int; cases h2.int
    exact ⟨_, _, rfl, give l k mk_int⟩
  · cases e
/-! all, any of a list of truths -/
def blsOf : List P → Option (List Bool)
  | [] => some []
  | .bl i :: ps => (blsOf ps).map (i :: ·)
  | _ => none
theorem bls_rps {c : Ctx} {H : Hp} : ∀ {ps : List P} {ns : List Bool} {vs : List V}, blsOf ps = some ns → Rps c H ps vs → vs = ns.map V.bl
  | [], _, _, e, r => by cases e; exact rps_nil_inv r
  | p :: ps, _, _, e, r => by
    cases p with
    | bl i =>
      unfold blsOf at e
      cases e1 : blsOf ps with
      | none => rw [e1] at e; cases e
      | some ns =>
        rw [e1] at e
        cases e
        obtain ⟨v, l, rfl, r1, r2⟩ := rps_inv r
        rw [rp_bl r1, bls_rps e1 r2]; rfl
    | _ => cases e
theorem blsOf_map (ns : List Bool) : blsOf (ns.map .bl) = some ns := by
  induction ns with
  | nil => rfl
  | cons n ns ih => show (blsOf (ns.map .bl)).map (n :: ·) = _; rw [ih]; rfl
def onBls (g : List Bool → Bool) : List P → Option Rv
  | [.lst ps] => (blsOf ps).bind fun bs => ib (g bs)
  | _ => none
def allP := onBls fun bs => bs.all id
def anyP := onBls fun bs => bs.any id
theorem onBls_post {c : Ctx} {F H : Hp} {ps : List P} {xs : List V} {g : List Bool → Bool} {res : Rv} (l : Le F H) (h : Rbs c F H ps xs) (e : onBls g ps = some res) : ∃ a ns, xs = [.ref a] ∧ SqL c.K H a (ns.map V.bl) ∧ ib (g ns) = some res := by
  unfold onBls at e
  split at e
  · rename_i qs
    obtain ⟨v, rfl, h1⟩ := rbs1 h
    obtain ⟨a, vs, rfl, q, r⟩ := h1.lst l
    cases e1 : blsOf qs with
    | none => rw [e1] at e; cases e
    | some ns =>
      rw [e1] at e
      have := bls_rps e1 r
      subst this
      exact ⟨a, ns, rfl, .of q, e⟩
  · cases e
theorem v_all {c : Ctx} : CalV c (rAll c.K) allP := by
  intro F H ps xs res Q l h e k
  obtain ⟨a, ns, rfl, q, e⟩ := onBls_post l h e
  cases e
  exact ⟨a, ns, rfl, q, give l k mk_bl⟩
theorem v_any {c : Ctx} : CalV c (rAny c.K) anyP := by
  intro F H ps xs res Q l h e k
  obtain ⟨a, ns, rfl, q, e⟩ := onBls_post l h e
  cases e
  exact ⟨a, ns, rfl, q, give l k mk_bl⟩
end PV

namespace PV
open PySem L2 PyProof.Rows

/-! ### isinstance -/
def tyName : P → Option String
  | .non => some "NoneType"
  | .bl _ => some "bool"
  | .int _ => some "int"
  | .str _ => some "str"
  | .tup _ => some "tuple"
  | .lst _ => some "list"
  | _ => none
def isi1 (p : P) (n : String) : Option Bool := (tyName p).bind fun t => if n ∈ ["int", "bool", "str", "list", "tuple"] then some (t == n || (t == "bool" && n == "int")) else none
theorem kit_all : ∀ t ∈ ["NoneType", "bool", "int", "str", "tuple", "list"], ∀ n ∈ ["int", "bool", "str", "list", "tuple"], kitB t n = some (t == n || (t == "bool" && n == "int")) := by decide +kernel
theorem tyName_mem {p : P} {t : String} (h : tyName p = some t) : t ∈ ["NoneType", "bool", "int", "str", "tuple", "list"] := by
  cases p <;> simp only [tyName] at h <;> first | (cases h; decide) | cases h
theorem tyx_of {c : Ctx} {H : Hp} {p : P} {v : V} {t : String} (r : Rp c H p v) (h : tyName p = some t) : TyX c.K H v (.type t) := by
  cases p with
  | non => cases h; rw [rp_non r]; exact .base .non
  | bl b => cases h; rw [rp_bl r]; exact .base (.bl b)
  | int i => cases h; rw [rp_int r]; exact .base (.int i)
  | str x => cases h; rw [rp_str r]; exact .base (.str x)
  | tup ps =>
    cases h
    obtain ⟨a, vs, rfl, q, _⟩ := rp_tup r
    rcases q with (q | ⟨o, q⟩) | ⟨o, its, n, q1, q2, _⟩
    · exact .base (.tup q)
    · exact .fTuple q
    · exact .kTuple q1 q2
  | lst ps =>
    cases h
    obtain ⟨a, vs, rfl, q, _⟩ := rp_lst r
    exact .base (.lst q)
  | dct t ks ws => cases h
  | obj C ps => cases h
  | fn f => cases h
  | scr ns => cases h
  | ty n => cases h
  | cls C => cases h
theorem kit_isi {K : PySem.W.Frag} {p : P} {t n : String} {b : Bool} (h : tyName p = some t) (e : isi1 p n = some b) : PySem.W.kitOne K (.type t) (.type n) = some b := by
  unfold isi1 at e
  rw [h] at e
  have e' : (if n ∈ ["int", "bool", "str", "list", "tuple"] then some (t == n || (t == "bool" && n == "int")) else none) = some b := e
  split at e'
  · rename_i hn
    rw [← e']
    exact kit_ty (kit_all t (tyName_mem h) n hn)
  · cases e'
def isiAny (p : P) : List P → Option Bool
  | [] => some false
  | .ty n :: ps => (isi1 p n).bind fun b => if b = true then some true else isiAny p ps
  | _ => none
def isiP : List P → Option Rv
  | [p, .ty n] => (isi1 p n).bind ib
  | [p, .tup ts] => (isiAny p ts).bind ib
  | _ => none
/-- isinstance(x, (c1, c2, ..)), the tuple readable -/
def rIsiS (K : PySem.W.Frag) : List V → Hp → VK → Prop := fun xs H Q => ∃ (x : V) (tp : Addr) (cs : List V) (t : Value) (us : List Value) (b : Bool), xs = [x, .ref tp] ∧ SqT K H tp cs ∧ Paired ClsV cs us ∧ TyX K H x t ∧ PySem.W.kitAny K t us = some b ∧ Q (.bl b) H
theorem call_isiS {X : Cx} : CallR X (.builtin "isinstance") (rIsiS X.K) := by
  intro pins s σ H xs us Q I r h
  obtain ⟨x, tp, cs, t, ws, b, rfl, hT, k, ty, e, q⟩ := h
  obtain ⟨u1, u2, rfl, r1, r2⟩ := vals2 r
  cases (show u2 = Value.ref tp from r2)
  obtain ⟨P, Z, p, hx⟩ := kit_of I r1 ty
  obtain ⟨its, rv, ⟨o, h1, h2, n, h3⟩, _⟩ := I.tuple hT
  have e3 := ClsV.all k rv
  subst e3
  obtain ⟨oc, od, dt, sl⟩ := o
  simp only at h2 h3
  subst h2 h3
  exact PySem.W.kia_tup Z I.kIn p h1 e hx fun tk => ⟨.bl b, H, I.tok tk, rfl, q⟩
theorem cl_isi {X : Cx} : CallR X (.builtin "isinstance") (fun x H Q => rIsi X.K x H Q ∨ rIsiS X.K x H Q) := CallR.or call_isi call_isiS
/-- the types written in the tuple -/
def allTy : List P → Bool
  | [] => true
  | .ty _ :: ps => allTy ps
  | _ => false
theorem tys_paired {c : Ctx} {H : Hp} : ∀ {ts : List P} {vs : List V}, allTy ts = true → Rps c H ts vs → ∃ us, Paired ClsV vs us ∧ us = ts.map (fun t => match t with | .ty n => Value.type n | _ => Value.none)
  | [], _, _, r => by rw [rps_nil_inv r]; exact ⟨[], .nil, rfl⟩
  | t :: ts, _, h, r => by
    obtain ⟨v, l, rfl, r1, r2⟩ := rps_inv r
    cases t with
    | ty n =>
      obtain ⟨us, k, e⟩ := tys_paired (show allTy ts = true from h) r2
      rw [rp_ty r1]
      exact ⟨.type n :: us, .cons (.ty n) k, by rw [e]; rfl⟩
    | _ => cases h
theorem kitAny_of {K : PySem.W.Frag} {p : P} {t : String} (ht : tyName p = some t) : ∀ {ts : List P} {b : Bool}, allTy ts = true → isiAny p ts = some b → PySem.W.kitAny K (.type t) (ts.map (fun t => match t with | .ty n => Value.type n | _ => Value.none)) = some b
  | [], _, _, e => by cases e; exact kitAny_nil
  | q :: ts, b, h, e => by
    cases q with
    | ty n =>
      unfold isiAny at e
      cases e1 : isi1 p n with
      | none => rw [e1] at e; cases e
      | some b1 =>
        rw [e1] at e
        refine kitAny_cons (kit_isi ht e1) (fun z => ?_) (fun z => ?_)
        · subst z
          exact kitAny_of ht (show allTy ts = true from h) e
        · subst z
          cases e
          rfl
    | _ => cases h
def isiP' : List P → Option Rv
  | [p, .tup ts] => if allTy ts = true ∧ (tyName p).isSome = true then isiP [p, .tup ts] else none
  | ps => isiP ps
theorem v_isi {c : Ctx} : CalV c (fun x H Q => rIsi c.K x H Q ∨ rIsiS c.K x H Q) isiP' := by
  intro F H ps xs res Q l h e k
  have one : ∀ (p : P) (n : String), Rbs c F H [p, .ty n] xs → (isi1 p n).bind ib = some res → rIsi c.K xs H Q := fun p n h e => by
    obtain ⟨v, w, rfl, h1, h2⟩ := rbs2 h
    cases e1 : isi1 p n with
    | none => rw [e1] at e; cases e
    | some b =>
      rw [e1] at e
      cases e
      cases ht : tyName p with
      | none => unfold isi1 at e1; rw [ht] at e1; cases e1
      | some t =>
        have hw := rp_ty (h2.rpH l)
        exact ⟨v, w, .type t, .type n, b, rfl, by rw [hw]; exact .ty n, tyx_of (h1.rpH l) ht, kit_isi ht e1, give l k mk_bl⟩
  unfold isiP' at e
  split at e
  · rename_i p ts
    split at e
    · rename_i ha
      have e' : (isiAny p ts).bind ib = some res := e
      obtain ⟨v, w, rfl, h1, h2⟩ := rbs2 h
      obtain ⟨a, vs, rfl, q, r, _⟩ := h2.tup l
      cases e1 : isiAny p ts with
      | none => rw [e1] at e'; cases e'
      | some b =>
        rw [e1] at e'
        cases e'
        obtain ⟨us, k1, k2⟩ := tys_paired ha.1 r
        cases ht : tyName p with
        | none => rw [ht] at ha; cases ha.2
        | some t => exact .inr ⟨v, a, vs, .type t, us, b, rfl, q, k1, tyx_of (h1.rpH l) ht, by rw [k2]; exact kitAny_of ht ha.1 e1, give l k mk_bl⟩
    · cases e
  · unfold isiP at e
    split at e
    · exact .inl (one _ _ h e)
    · rename_i p ts hne
      exact absurd rfl (hne p ts)
    · cases e
end PV

namespace PV
open PySem L2 PyProof.Rows

/-! ### slices -/
def cutP (xs : List P) (lo hi : Option Int) : List P := (xs.drop (HT.sIx xs.length 0 lo)).take (HT.sIx xs.length xs.length hi - HT.sIx xs.length 0 lo)
theorem rps_cut {c : Ctx} {F : Hp} {ps : List P} {vs : List V} (r : Rps c F ps vs) (lo hi : Option Int) : Rps c F (cutP ps lo hi) (cutV vs lo hi) := by
  unfold cutP cutV
  rw [rps_len r]
  exact rps_take _ (rps_drop _ r)
def slP : P → Option Int → Option Int → Option Rv
  | .lst xs, lo, hi => some (.own (.lst (cutP xs lo hi)))
  | .tup xs, lo, hi => some (.val (.tup (cutP xs lo hi)))
  | _, _, _ => none
def rSlB (K : PySem.W.Frag) : V → Option Int → Option Int → Hp → VK → Prop := fun x lo hi H Q => rSlL K x lo hi H Q ∨ rSlA K x lo hi H Q
theorem v_sl {c : Ctx} {F H : Hp} {p : P} {x : V} {res : Rv} {Q : VK} {lo hi : Option Int} (l : Le F H) (h : Rb c F H p x) (e : slP p lo hi = some res) (k : ∀ v F' H', Gr F H F' H' → RN c H F' H' res v → Q v H') : rSlB c.K x lo hi H Q := by
  cases p with
  | lst xs =>
    cases e
    obtain ⟨a, vs, rfl, q, r⟩ := h.lst l
    exact .inl ⟨a, vs, rfl, .of q, fun p hp => k _ _ _ (gr_lst l hp) (rn_lst l hp (rps_cut r _ _))⟩
  | tup xs =>
    cases e
    obtain ⟨a, vs, rfl, q, r, r0⟩ := h.tup l
    refine .inr ⟨a, vs, rfl, q, fun z => k _ F H (Gr.refl l) ?_, fun _ p hp => k _ _ _ (gr_tup l hp) (rn_tup l hp (rps_cut r _ _))⟩
    have : cutP xs lo hi = xs := by
      unfold cutP
      rw [rps_len r, z.1, z.2]
      rw [List.drop_zero, Nat.sub_zero, ← rps_len r, List.take_length]
    rw [this]
    exact r0
  | _ => cases e
def tO (c : Ctx) (w : Wi) (f : M (Option Int)) : TO := fun σ H Q => ∃ F π, w.g σ F ∧ SR c F π σ H ∧ Po c w.W F π σ H (f π) (fun b π' F' H' => Q b H')
def noP : M (Option Int) := fun π => .ok none π
def inP (f : M Rs) : M (Option Int) := fun π => (f π).bind fun r π1 => match r with
  | .val (.int i) => .ok (some i) π1
  | _ => .bad
def slR (r : Rs) (lo hi : Option Int) : M Rs := fun π => match rdP π r with
  | some p => outR (slP p lo hi) π
  | none => .bad
def slF (f : M Rs) (g h : M (Option Int)) : M Rs := fun π => (f π).bind fun r π1 => (g π1).bind fun lo π2 => (h π2).bind fun hi => slR r lo hi
theorem po_weak {X : Cx} {e : Option Expr} {t t' : TO} (h : PO X e t) (k : ∀ σ H Q, t' σ H Q → t σ H Q) : PO X e t' := ⟨fun pins s σ H Q I q => h.run pins s σ H Q I (k _ _ _ q)⟩
section
variable {X : Cx} {c : Ctx} {w : Wi} {e : Expr} {lo hi : Option Expr} {pos p2 : Pos} {f : M Rs} {g h : M (Option Int)}
theorem o_no : PO X none (tO c w noP) := po_weak po_none fun σ H Q ⟨F, π, gg, s, po⟩ => po F H .refl s
theorem o_in (he : PE X e (tE c w f)) : PO X (some e) (tO c w (inP f)) := po_weak (po_some he) fun σ H Q ⟨F, π, gg, s, po⟩ => by
  refine ⟨F, π, gg, s, (Po.split po).mono fun r π1 F1 H1 t1 s1 p1 x hx => ?_⟩
  cases r with
  | val p =>
    cases p with
    | int i => exact ⟨i, rp_int (show Rp c F1 (.int i) x from hx), p1 F1 H1 .refl s1⟩
    | _ => exact p1.elim
  | own o => exact p1.elim
  | bor i => exact p1.elim
theorem p_sl (hK : X.K = c.K) (he : PE X e (tE c w f)) (hl : PO X lo (tO c w g)) (hu : PO X hi (tO c w h)) : PE X (.Subscript e (.Slice lo hi none p2) pos) (tE c w (slF f g h)) :=
  pe_weak (pe_slice (r := rSlB X.K) (SlR.or sl_list sl_tupA) he hl hu) fun σ H Q ⟨F, π, gg, s, po⟩ => by
    refine ⟨F, π, gg, s, (Po.split po).mono fun r π1 F1 H1 t1 s1 p1 x hx => ⟨F1, π1, w.mono _ _ t1.le gg, s1, (Po.split p1).mono fun lo π2 F2 H2 t2 s2 p2 => ⟨F2, π2, w.mono _ _ (t1.trans t2).le gg, s2, (Po.split p2).mono fun hi π3 F3 H3 t3 s3 p3 => ?_⟩⟩⟩
    rw [hK]
    unfold slR at p3
    cases e1 : rdP π3 r with
    | none => rw [e1] at p3; exact p3.elim
    | some q1 =>
      rw [e1] at p3
      obtain ⟨rv, e3, k⟩ := outR_post s3 p3
      refine v_sl s3.le ((hx.step (t2.trans t3)).rb s3 e1) e3 fun v F4 H4 gr rn => ?_
      obtain ⟨k1, k2⟩ := k v F4 H4 gr rn
      exact k1 v (k2.base (t1.trans (t2.trans t3)))
end

/-! ### list(range(..)) -/
def lrgR (ps : List P) : M Rs := fun π => .ok (.own (.lst ps)) π
def lrgF (fi : M (List P)) : M Rs := fun π => (fi π).bind lrgR
section
variable {X : Cx} {c : Ctx} {w : Wi} {e e2 : Expr} {pos pos2 p p2 : Pos} {fa : M (List Rs)} {f g : M Rs}
theorem rps_rg {F : Hp} {i j : Int} : Rps c F (rngP i j) (rgV i j) := by
  unfold rngP rgV
  generalize List.range (j - i).toNat = l
  induction l with
  | nil => exact rps_nil
  | cons a l ih => exact rps_cons mk_int ih
theorem p_listRg1 (hc : X.calm = true) (hg : Gl X "range") (hm : X.mg "range" = none) (hg2 : Gl X "list") (hm2 : X.mg "list" = none) (ha : PE X e (tE c w f)) (na : starEach [e] X.env = (false, eval e X.env) :: starEach [] X.env := by rfl)
    (na2 : starEach [.Call (.Name "range" p) [e] [] pos] X.env = (false, eval (.Call (.Name "range" p) [e] [] pos) X.env) :: starEach [] X.env := by rfl) :
    PE X (.Call (.Name "list" p2) [.Call (.Name "range" p) [e] [] pos] [] pos2) (tE c w (lrgF (rng1F (consF f nilF)))) :=
  pe_weak (pe_listRg hc hg2 hm2 (prg_1 hg hm ha na) na2) fun σ H Q ⟨F, π, gg, s, po⟩ => by
    unfold lrgF rng1F consF nilF at po
    refine ⟨F, π, gg, s, ?_⟩
    cases e0 : f π with
    | bad => simp only [e0, Out.bind] at po; exact po
    | exc C qs π1 => simp only [e0, Out.bind] at po; exact po
    | ok r π1 =>
      simp only [e0, Out.bind] at po
      intro F1 H1 t1 s1 v hr
      have po := Po.from po t1
      cases r with
      | own o => exact po.elim
      | bor i => exact po.elim
      | val q =>
        cases q with
        | int j =>
          have hv : v = .int j := rp_int (show Rp c F1 (.int j) v from hr)
          subst hv
          refine ⟨j, rfl, ?_⟩
          simp only [rng1R] at po
          by_cases hb : -8000000 ≤ j ∧ j ≤ 8000000
          · simp only [if_pos hb] at po
            refine ⟨⟨by omega, by omega, by omega, by omega, by omega⟩, fun q hq => ?_⟩
            have gr : Gr F1 H1 F1 (L2.upd H1 q (.lst (rgV 0 j))) := gr_lst s1.le hq
            exact po _ _ gr.tr (gr.sr s1) _ ((RN.rr (rv := .own (.lst _)) s1 gr (rn_lst s1.le hq rps_rg)).base t1)
          · simp only [if_neg hb] at po; exact po.elim
        | _ => exact po.elim
theorem rng2R_exc {rs : List Rs} {π π' : En} {C : Nat} {ps : List P} (e : rng2R rs π = .exc C ps π') : False := by
  unfold rng2R at e
  split at e
  · split at e <;> cases e
  · cases e
theorem rng2R_ok {rs : List Rs} {π π' : En} {ps : List P} (e : rng2R rs π = .ok ps π') : ∃ i j : Int, ((-8000000 ≤ i ∧ i ≤ 8000000) ∧ -8000000 ≤ j ∧ j ≤ 8000000) ∧ rs = [.val (.int i), .val (.int j)] ∧ ps = rngP i j ∧ π' = π := by
  unfold rng2R at e
  split at e
  · split at e
    · rename_i hb
      cases e
      exact ⟨_, _, hb, rfl, rfl, rfl⟩
    · cases e
  · cases e
theorem p_listRg2 (hc : X.calm = true) (hg : Gl X "range") (hm : X.mg "range" = none) (hg2 : Gl X "list") (hm2 : X.mg "list" = none) (ha : PE X e (tE c w f)) (hb : PE X e2 (tE c w g)) (na : starEach [e, e2] X.env = (false, eval e X.env) :: starEach [e2] X.env := by rfl)
    (nb : starEach [e2] X.env = (false, eval e2 X.env) :: starEach [] X.env := by rfl) (hp : (backTo pos (starEach [e2] X.env)).any (·.1) = false := by rfl)
    (na2 : starEach [.Call (.Name "range" p) [e, e2] [] pos] X.env = (false, eval (.Call (.Name "range" p) [e, e2] [] pos) X.env) :: starEach [] X.env := by rfl) :
    PE X (.Call (.Name "list" p2) [.Call (.Name "range" p) [e, e2] [] pos] [] pos2) (tE c w (lrgF (rng2F (consF f (consF g nilF))))) :=
  pe_weak (pe_listRg hc hg2 hm2 (prg_2 hg hm ha hb na nb hp) na2) fun σ H Q ⟨F, π, gg, s, po⟩ => by
    unfold lrgF rng2F consF nilF at po
    refine ⟨F, π, gg, s, ?_⟩
    cases e0 : f π with
    | bad => simp only [e0, Out.bind] at po; exact po
    | exc C qs π1 => simp only [e0, Out.bind] at po; exact po
    | ok r π1 =>
      simp only [e0, Out.bind] at po
      intro F1 H1 t1 s1 v hr
      refine ⟨F1, π1, w.mono _ _ t1.le gg, s1, ?_⟩
      have po := Po.from po t1
      cases e1 : g π1 with
      | bad => simp only [e1] at po; exact po
      | exc C qs π1 => simp only [e1] at po; exact po
      | ok r2 π2 =>
        simp only [e1] at po
        intro F2 H2 t2 s2 v2 hr2
        have po := Po.from po t2
        cases e3 : rng2R [r, r2] π2 with
        | bad => rw [e3] at po; exact po.elim
        | exc C qs π3 => exact (rng2R_exc e3).elim
        | ok ps π3 =>
          rw [e3] at po
          obtain ⟨i, j, hb, er, eps, eπ⟩ := rng2R_ok e3
          cases er
          subst eps eπ
          have hv : v = .int i := rp_int (show Rp c F1 (.int i) v from hr)
          have hv2 : v2 = .int j := rp_int (show Rp c F2 (.int j) v2 from hr2)
          subst hv hv2
          refine ⟨i, j, rfl, rfl, ⟨by omega, by omega, by omega, by omega, by omega⟩, fun q hq => ?_⟩
          have gr : Gr F2 H2 F2 (L2.upd H2 q (.lst (rgV i j))) := gr_lst s2.le hq
          exact po _ _ gr.tr (gr.sr s2) _ ((RN.rr (rv := .own (.lst _)) s2 gr (rn_lst s2.le hq rps_rg)).base (t1.trans t2))
end
end PV

namespace PV
open PySem PySem.Spec L2 PyProof.Rows

/-! ### a slot's list is written -/
def slL : Sl → Option (List P)
  | .own (.lst xs) => some xs
  | .loan (.lst xs) => some xs
  | _ => none
theorem slL_ow {sl : Sl} {xs : List P} (h : slL sl = some xs) : sl.ow = some (.lst xs) := by
  cases sl with
  | own o => cases o <;> cases h; rfl
  | loan o => cases o <;> cases h; rfl
  | _ => cases h
def getL (π : En) (i : Nat) : Option (List P) := (π[i]?).bind slL
theorem getL_at {π : En} {i : Nat} {xs : List P} (h : getL π i = some xs) : ∃ sl, π[i]? = some sl ∧ slL sl = some xs := by
  unfold getL at h
  cases q : π[i]? with
  | none => rw [q] at h; cases h
  | some sl => rw [q] at h; exact ⟨sl, rfl, h⟩
def putL (π : En) (i : Nat) (ys : List P) : En := match π[i]? with
  | some sl => π.set i (sl.put (.lst ys))
  | none => π
section
variable {c : Ctx} {F H : Hp} {π : En} {σ : L2.St} {i : Nat} {xs : List P}
theorem SR.getL (s : SR c F π σ H) (h : getL π i = some xs) : ∃ a vs, σ[i]? = some (some (.ref a)) ∧ H a = some (.lst vs) ∧ Rps c F xs vs := by
  obtain ⟨sl, h1, h2⟩ := getL_at h
  obtain ⟨a, e, _, vs, q1, q2⟩ := s.ow i sl _ h1 (slL_ow h2)
  exact ⟨a, vs, e, q1, q2⟩
theorem SR.putL {ys : List P} {us : List V} {a : Addr} (s : SR c F π σ H) (h : PV.getL π i = some xs) (hσ : σ[i]? = some (some (.ref a))) (r : Rps c F ys us) : SR c F (putL π i ys) σ (L2.upd H a (.lst us)) ∧ Tr F π σ H F (putL π i ys) σ (L2.upd H a (.lst us)) := by
  obtain ⟨sl, h1, h2⟩ := getL_at h
  unfold PV.putL
  rw [h1]
  exact s.put h1 (slL_ow h2) hσ ⟨us, upd_same, r⟩
end
/-- a method of a list: what it answers, what the list then is -/
def MlV (c : Ctx) (r : V → List V → Hp → VK → Prop) (o : List P → List P → Option (P × List P)) : Prop := ∀ (F H : Hp) (xs ps : List P) (vs ws : List V) (a : Addr) (q : P) (ys : List P) (Q : VK), H a = some (.lst vs) → Rps c F xs vs → Rps c F ps ws → o xs ps = some (q, ys) →
  (∀ v us, Rp c F q v → Rps c F ys us → Q v (L2.upd H a (.lst us))) → r (.ref a) ws H Q
def mutR (o : List P → List P → Option (P × List P)) (i : Nat) (rs : List Rs) : M Rs := fun π => match getL π i, vals rs with
  | some xs, some ps => (match o xs ps with
    | some (q, ys) => .ok (.val q) (putL π i ys)
    | none => .bad)
  | _, _ => .bad
def mutF (o : List P → List P → Option (P × List P)) (i : Nat) (fa : M (List Rs)) : M Rs := fun π => if (getL π i).isSome then (fa π).bind (mutR o i) else .bad
section
variable {X : Cx} {c : Ctx} {w : Wi} {e : Expr} {es : List Expr} {name x : Str} {apos cpos pos : Pos} {id : String} {r : V → List V → Hp → VK → Prop} {o : List P → List P → Option (P × List P)} {i : Nat} {fa : M (List Rs)}
theorem tv_list {K : PySem.W.Frag} {a : Addr} {vs : List V} {H : Hp} (h : H a = some (.lst vs)) : tyV K "list" (.ref a) H := .inl ⟨rfl, vs, .of h⟩
theorem mut_post {W : WX} {F H H0 : Hp} {π π0 : En} {σ : L2.St} {rs : List Rs} {ws : List V} {a : Addr} {Q : VK} (hv : MlV c r o) (s : SR c F π σ H) (hr : RRs c π0 H0 F π σ H rs ws) (hσ : σ[i]? = some (some (.ref a)))
    (po : Po c W F π σ H (mutR o i rs π) (fun r' π' F' H' => ∀ v, RR c π0 H0 F' π' σ H' r' v → Q v H')) : r (.ref a) ws H Q := by
  unfold mutR at po
  cases e1 : getL π i with
  | none => rw [e1] at po; exact po.elim
  | some xs =>
    cases e2 : vals rs with
    | none => rw [e1, e2] at po; exact po.elim
    | some ps =>
      cases e3 : o xs ps with
      | none => simp only [e1, e2, e3] at po; exact po.elim
      | some qy =>
        obtain ⟨q, ys⟩ := qy
        simp only [e1, e2, e3] at po
        obtain ⟨b, vs, h1, h2, h3⟩ := s.getL e1
        rw [hσ] at h1
        cases h1
        refine hv F H xs ps vs ws a q ys Q h2 h3 (vals_rps hr e2) e3 fun v us rv ru => ?_
        obtain ⟨s2, t2⟩ := s.putL e1 hσ ru
        exact po F _ t2 s2 v rv
theorem p_mut (pa : PlainAttrs "list") (slot : Slot "list" name id) (hty : typeOf (.builtin id) = pure (.type "method_descriptor")) (hm : MtR X id r) (hv : MlV c r o) (ho : PE X (.Name x pos) (tE c w (varF i))) (ha : PA X (e :: es) (tR c w fa))
    (hbase : attributeBase (.Name x pos) name X.env (eval (.Name x pos) X.env) = eval (.Name x pos) X.env := by rfl)
    (hfew : ((backTo cpos (starEach (e :: es) X.env)).all (fun x => !x.1) && (backToKw cpos (keywordEach [] X.env)).all (fun x => x.1.isSome)
      && decide ((e :: es).length + ([] : List Keyword).length + (if ([] : List Keyword).isEmpty then 0 else 1) < 30)) = true := by rfl)
    (hline : (apos.endLine == cpos.line) = true := by rfl) (hs : starEach (e :: es) X.env = (false, eval e X.env) :: starEach es X.env := by rfl) (hplain : (backTo cpos (starEach es X.env)).any (·.1) = false := by rfl) :
    PE X (.Call (.Attribute (.Name x pos) name apos) (e :: es) [] cpos) (tE c w (mutF o i fa)) :=
  pe_weak (pe_bm pa slot hty hm ho ha hbase hfew hline hs hplain) fun σ H Q ⟨F, π, gg, s, po⟩ => by
    unfold mutF at po
    cases e1 : getL π i with
    | none => rw [e1] at po; exact po.elim
    | some xs =>
      rw [e1] at po
      obtain ⟨sl, h1, h2⟩ := getL_at e1
      obtain ⟨a, vs, h3, h4, h5⟩ := s.getL e1
      refine ⟨F, π, gg, s, ?_⟩
      have hvar : varF i π = .ok (.bor i) π := by
        unfold varF
        rw [h1]
        cases sl with
        | own o => rfl
        | loan o => rfl
        | _ => cases h2
      rw [hvar]
      intro F1 H1 t1 s1 v hv'
      have hv2 : v = .ref a := by
        have : σ[i]? = some (some v) := hv'
        rw [h3] at this
        exact (Option.some.inj (Option.some.inj this)).symm
      subst hv2
      obtain ⟨b, vs1, q3, q4, q5⟩ := s1.getL e1
      rw [h3] at q3
      cases q3
      refine ⟨tv_list q4, F1, π, w.mono _ _ t1.le gg, s1, (Po.split (Po.from po t1)).mono fun rs π2 F2 H2 t2 s2 p2 ws hws => ?_⟩
      exact mut_post hv s2 hws h3 (p2.mono fun r' π' F' H' t' s' k v hr => k v (RR.base hr t1 : RR c π H F' π' σ H' r' v))
theorem p_mut0 (pa : PlainAttrs "list") (slot : Slot "list" name id) (hty : typeOf (.builtin id) = pure (.type "method_descriptor")) (hm : MtR X id r) (hv : MlV c r o) (ho : PE X (.Name x pos) (tE c w (varF i)))
    (hbase : attributeBase (.Name x pos) name X.env (eval (.Name x pos) X.env) = eval (.Name x pos) X.env := by rfl) (hline : (apos.endLine == cpos.line) = true := by rfl) :
    PE X (.Call (.Attribute (.Name x pos) name apos) [] [] cpos) (tE c w (mutF o i nilF)) :=
  pe_weak (pe_bm0 pa slot hty hm ho hbase hline) fun σ H Q ⟨F, π, gg, s, po⟩ => by
    unfold mutF at po
    cases e1 : getL π i with
    | none => rw [e1] at po; exact po.elim
    | some xs =>
      rw [e1] at po
      obtain ⟨sl, h1, h2⟩ := getL_at e1
      obtain ⟨a, vs, h3, h4, h5⟩ := s.getL e1
      refine ⟨F, π, gg, s, ?_⟩
      have hvar : varF i π = .ok (.bor i) π := by
        unfold varF
        rw [h1]
        cases sl with
        | own o => rfl
        | loan o => rfl
        | _ => cases h2
      rw [hvar]
      intro F1 H1 t1 s1 v hv'
      have hv2 : v = .ref a := by
        have : σ[i]? = some (some v) := hv'
        rw [h3] at this
        exact (Option.some.inj (Option.some.inj this)).symm
      subst hv2
      obtain ⟨b, vs1, q3, q4, q5⟩ := s1.getL e1
      rw [h3] at q3
      cases q3
      refine ⟨tv_list q4, ?_⟩
      exact mut_post (rs := []) (π0 := π) (H0 := H) hv s1 rfl h3 (Po.from po t1)
/-! append, insert, pop -/
def appP : List P → List P → Option (P × List P)
  | xs, [p] => if xs.length ≤ 1000000 then some (.non, xs ++ [p]) else none
  | _, _ => none
theorem v_append : MlV c rAppend appP := by
  intro F H xs ps vs ws a q ys Q h1 h2 h3 e k
  have hs := sizeLine_eq
  unfold appP at e
  split at e
  · rename_i p
    split at e
    · cases e
      obtain ⟨v, l, rfl, r1, r2⟩ := rps_inv h3
      have := rps_nil_inv r2
      subst this
      have n1 := rps_len h2
      exact ⟨a, vs, v, rfl, rfl, h1, by omega, k _ _ mk_non (rps_append h2 (rps_cons r1 rps_nil))⟩
    · cases e
  · cases e
def insX {α : Type} (xs : List α) (k : Nat) (y : α) : List α := xs.take k ++ y :: xs.drop k
def rIns : V → List V → Hp → VK → Prop := fun x vs H Q => ∃ (l : Addr) (xs : List V) (i : Int) (y : V), x = .ref l ∧ vs = [.int i, y] ∧ H l = some (.lst xs) ∧ 0 ≤ i ∧ i ≤ 1000000 ∧ xs.length < sizeLine ∧ Q .non (L2.upd H l (.lst (insX xs i.toNat y)))
theorem mt_insert : MtR X "list.insert" rIns := by
  intro pins s σ H x vs v us Q I rx rv h
  obtain ⟨l, xs, i, y, rfl, rfl, hH, hi0, hi1, hz, q⟩ := h
  cases rx
  obtain ⟨u0, u, rfl, r0, ru⟩ := rv.two
  obtain ⟨t, rfl⟩ := r0
  obtain ⟨z, its, n, r, hl, e⟩ := I.lstM hH
  have hfit : Builtin.List.listFitsIndex i = true := by
    have := line63
    unfold Builtin.List.listFitsIndex
    simp
    omega
  refine call_meets F.slot_list_insert ⟨_, e, rfl⟩ F.entry_list_insert (F.args_list_insert_3 _ _ _) (AutoSeq1.list_insert_list_int_val_1 l its.toArray n i t u (by simp [hfit]) (by rw [List.size_toArray]; omega)) ⟨e, ?_⟩
  refine ⟨.non, _, I.lset (its' := insX its i.toNat u) (ys := insX xs i.toNat y) hH e ?_ ?_ ?_, rfl, q⟩
  · have h0 : ¬ i < 0 := by omega
    simp only [if_neg h0]
    apply Array.toList_inj.mp
    unfold insX
    simp
    have e1 : List.take (min i.toNat its.length) its = List.take i.toNat its := by
      rcases Nat.le_total i.toNat its.length with h | h
      · rw [Nat.min_eq_left h]
      · rw [Nat.min_eq_right h, List.take_length, List.take_of_length_le h]
    have e2 : List.drop (min i.toNat its.length) its = List.drop i.toNat its := by
      rcases Nat.le_total i.toNat its.length with h | h
      · rw [Nat.min_eq_left h]
      · rw [Nat.min_eq_right h, List.drop_length, List.drop_of_length_le h]
    have e3 : List.take (its.length - min i.toNat its.length) (List.drop (min i.toNat its.length) its) = List.drop (min i.toNat its.length) its := List.take_of_length_le (by rw [List.length_drop]; omega)
    rw [e3, e1, e2]
  · unfold insX
    exact (r.take _).append (.cons ru (r.drop _))
  · unfold insX
    simp
    omega
def insP : List P → List P → Option (P × List P)
  | xs, [.int i, p] => if 0 ≤ i ∧ i ≤ 1000000 ∧ xs.length ≤ 1000000 then some (.non, insX xs i.toNat p) else none
  | _, _ => none
theorem v_insert : MlV c rIns insP := by
  intro F H xs ps vs ws a q ys Q h1 h2 h3 e k
  have hs := sizeLine_eq
  unfold insP at e
  split at e
  · rename_i i p
    split at e
    · cases e
      obtain ⟨v0, l0, rfl, r0, r9⟩ := rps_inv h3
      obtain ⟨v, l, rfl, r1, r2⟩ := rps_inv r9
      have := rps_nil_inv r2
      subst this
      cases rp_int r0
      have n1 := rps_len h2
      refine ⟨a, vs, i, v, rfl, rfl, h1, by omega, by omega, by omega, k _ _ mk_non ?_⟩
      unfold insX
      exact rps_append (rps_take _ h2) (rps_cons r1 (rps_drop _ h2))
    · cases e
  · cases e
def popP : List P → List P → Option (P × List P)
  | xs, [] => match xs[xs.length - 1]? with
    | some q => some (q, xs.dropLast)
    | none => none
  | _, _ => none
theorem rps_dropLast {F : Hp} : ∀ {ps : List P} {vs : List V}, Rps c F ps vs → Rps c F ps.dropLast vs.dropLast := fun {ps vs} r => by
  rw [List.dropLast_eq_take, List.dropLast_eq_take, rps_len r]
  exact rps_take _ r
theorem v_pop : MlV c rPop popP := by
  intro F H xs ps vs ws a q ys Q h1 h2 h3 e k
  unfold popP at e
  split at e
  · split at e
    · rename_i p hp
      cases e
      have := rps_nil_inv h3
      subst this
      obtain ⟨v, e1, r1⟩ := rps_get h2 hp
      rw [rps_len h2] at e1
      exact ⟨a, vs, v, rfl, rfl, h1, e1, k _ _ r1 (rps_dropLast h2)⟩
    · cases e
  · cases e
end
end PV

namespace PV
open PySem PySem.Spec L2 PyProof.Rows

/-! ### xs[k] = e, xs a slot's list -/
def stR (i : Nat) (p : P) (r : Rs) : M Fl := fun π => match r, getL π i with
  | .val (.int k), some xs => (match ixN xs.length k with
    | some j => .ok .nx (putL π i (xs.set j p))
    | none => .bad)
  | _, _ => .bad
def stF (i : Nat) (fe : M P) (fi : M Rs) : M Fl := fun π => (fe π).bind fun p π1 => if (getL π1 i).isSome then (fi π1).bind (stR i p) else .bad
section
variable {X : Cx} {c : Ctx} {w : Ws} {e ie : Expr} {x : Str} {xp tp pos : Pos} {i : Nat} {fe : M P} {fi : M Rs}
theorem s_st (ho : PE X (.Name x xp) (tE c w (varF i))) (hi : PE X ie (tE c w fi)) (he : PE X e (tV c w fe))
    (ha : ∀ v, assign (.Subscript (.Name x xp) ie tp) X.env v = (do
      let ov ← holding [v] (eval (.Name x xp) X.env)
      let iv ← holding [v, ov] (eval ie X.env)
      standAt tp
      holding [v, ov, iv] (setItem ov iv v)
      release [v, ov, iv] []) := by intro _; rfl)
    (hs : swapsWithSole [.Subscript (.Name x xp) ie tp] e pos.line X.env = pure false := by rfl) (hw : swappedStores [.Subscript (.Name x xp) ie tp] e X.env = pure none := by rfl)
    (h1 : (assignEach [.Subscript (.Name x xp) ie tp] X.env).map (·.2) = [assign (.Subscript (.Name x xp) ie tp) X.env] := by rfl) :
    PS X (.Assign [.Subscript (.Name x xp) ie tp] e pos) (tS c w (stF i fe fi)) :=
  ps_weak (ps_asg he (pg_sub ho hi set_list ha) hs hw h1) fun D σ H ⟨F, π, gg, s, po⟩ => by
    refine ⟨F, π, gg, s, (PoS.split po).mono fun p π1 F1 H1 t1 s1 p1 v hp => ?_⟩
    cases e1 : getL π1 i with
    | none => rw [e1] at p1; exact p1.elim
    | some xs =>
      rw [e1] at p1
      obtain ⟨sl, h1, h2⟩ := getL_at e1
      refine ⟨F1, π1, w.mono _ _ t1.le gg, s1, ?_⟩
      have hvar : varF i π1 = .ok (.bor i) π1 := by
        unfold varF
        rw [h1]
        cases sl with
        | own o => rfl
        | loan o => rfl
        | _ => cases h2
      rw [hvar]
      intro F2 H2 t2 s2 v2 hv2
      refine ⟨F2, π1, w.mono _ _ (t1.trans t2).le gg, s2, (PoS.split (PoS.from (show PoS c w.W F1 π1 σ H1 ((fi π1).bind (stR i p)) _ from p1) t2)).mono fun r π3 F3 H3 t3 s3 p3 y hy => ?_⟩
      unfold stR at p3
      cases r with
      | own o => exact p3.elim
      | bor j => exact p3.elim
      | val q =>
        cases q with
        | int k =>
          cases e3 : getL π3 i with
          | none => simp only [e3] at p3; exact p3.elim
          | some ys =>
            cases e4 : ixN ys.length k with
            | none => simp only [e3, e4] at p3; exact p3.elim
            | some j =>
              simp only [e3, e4] at p3
              obtain ⟨a, vs, q1, q2, q3⟩ := s3.getL e3
              have hv3 : v2 = .ref a := by
                have z : σ[i]? = some (some v2) := hv2
                rw [q1] at z
                exact (Option.some.inj (Option.some.inj z)).symm
              obtain ⟨s4, t4⟩ := s3.putL e3 q1 (rps_set j q3 (Rp.mono (t2.trans t3).le _ _ hp))
              refine ⟨a, vs, k, j, hv3, rp_int (show Rp c F3 (.int k) y from hy), q2, by rw [← rps_len q3]; exact e4, ?_⟩
              exact p3 F3 σ _ t4 s4
        | _ => exact p3.elim
end
/-! ### x, y = e, e' -/
def RQ (c : Ctx) (F : Hp) (π : En) (σ : L2.St) (H : Hp) : Rs → V → Prop
  | .val p, v => Rp c F p v
  | .own o, v => ∃ a, v = .ref a ∧ F a = none ∧ ¬ Own π σ a ∧ OwR c F H o a
  | .bor _, _ => True
theorem RR.rq {c : Ctx} {π0 : En} {H0 F : Hp} {π : En} {σ : L2.St} {H : Hp} {r : Rs} {v : V} (h : RR c π0 H0 F π σ H r v) : RQ c F π σ H r v := by
  cases r with
  | val p => exact h
  | own o => obtain ⟨a, e, h1, h2, h3, _⟩ := h; exact ⟨a, e, h1, h2, h3⟩
  | bor i => trivial
theorem setR_step {c : Ctx} {W : WX} {F H : Hp} {π : En} {σ : L2.St} {i : Nat} {r : Rs} {v : V} {α : Type} {f : Fl → M α} {J : α → En → Hp → L2.St → Hp → Prop} {F0 H9 : Hp} {π9 : En} {σ9 : L2.St} (s : SR c F π σ H) (hr : RQ c F π σ H r v) (po : PoS c W F0 π9 σ9 H9 ((setR i r π).bind f) J) :
    ∃ π', setR i r π = .ok .nx π' ∧ SR c F π' (σ.set i (some v)) H ∧ (∀ F1 π1 σ1 H1, Tr F1 π1 σ1 H1 F π σ H → (∀ a o, v = .ref a → r = .own o → Fr0 π1 σ1 H1 a) → Tr F1 π1 σ1 H1 F π' (σ.set i (some v)) H) ∧
      ∀ b, Own π' (σ.set i (some v)) b → Own π σ b ∨ (v = .ref b ∧ ∃ o, r = .own o) := by
  simp only [setR] at po ⊢
  cases q : π[i]? with
  | none => rw [q] at po; exact po.elim
  | some sl =>
    rw [q] at po
    have hi : i < π.length := (List.getElem?_eq_some_iff.mp q).1
    have hσ : i < σ.length := by rw [← s.len]; exact hi
    have own' : ∀ (new : Sl) b, Own (π.set i new) (σ.set i (some v)) b → Own π σ b ∨ (v = .ref b ∧ ∃ o, new.ow = some o) := fun new b ⟨j, sl, o, e1, e2, e3⟩ => by
      by_cases z : j = i
      · subst z
        rw [List.getElem?_set_self hi] at e1
        rw [List.getElem?_set_self hσ] at e3
        cases e1
        exact .inr ⟨Option.some.inj (Option.some.inj e3), o, e2⟩
      · rw [List.getElem?_set_ne (Ne.symm z)] at e1 e3
        exact .inl ⟨j, sl, o, e1, e2, e3⟩
    have main : (∀ o, sl ≠ .loan o) → PoS c W F0 π9 σ9 H9 (Out.bind (match r with | .val p => .ok .nx (π.set i (.val p)) | .own o => .ok .nx (π.set i (.own o)) | .bor _ => Out.bad) f) J → ∃ π', (match r with | .val p => Out.ok Fl.nx (π.set i (.val p)) | .own o => .ok .nx (π.set i (.own o)) | .bor _ => Out.bad) = .ok .nx π' ∧ SR c F π' (σ.set i (some v)) H ∧
        (∀ F1 π1 σ1 H1, Tr F1 π1 σ1 H1 F π σ H → (∀ a o, v = .ref a → r = .own o → Fr0 π1 σ1 H1 a) → Tr F1 π1 σ1 H1 F π' (σ.set i (some v)) H) ∧ ∀ b, Own π' (σ.set i (some v)) b → Own π σ b ∨ (v = .ref b ∧ ∃ o, r = .own o) := fun hn po => by
      have hl : ∀ o, π[i]? ≠ some (.loan o) := fun o z => by rw [q] at z; exact hn o (Option.some.inj z)
      cases r with
      | val p =>
        obtain ⟨s2, t2⟩ := s.set hi hl (.val p) (some v) (fun p' e => by cases e; exact ⟨v, rfl, hr⟩) (fun o e => by cases e) (fun o e => by cases e)
        refine ⟨_, rfl, s2, fun F1 π1 σ1 H1 t fr => t2 _ _ _ _ t (fun a e ⟨o, h⟩ => by cases h), fun b hb => ?_⟩
        rcases own' _ b hb with h | ⟨_, o, h⟩
        · exact .inl h
        · cases h
      | own o =>
        obtain ⟨a, rfl, h1, h2, h3⟩ := hr
        obtain ⟨s2, t2⟩ := s.set hi hl (.own o) (some (.ref a)) (fun p' e => by cases e) (fun o e => by cases e; exact ⟨a, rfl, h1, h3, h2⟩) (fun o e => by cases e)
        refine ⟨_, rfl, s2, fun F1 π1 σ1 H1 t fr => t2 _ _ _ _ t (fun b e _ => by cases e; exact fr a o rfl rfl), fun b hb => ?_⟩
        rcases own' _ b hb with h | ⟨h, _⟩
        · exact .inl h
        · exact .inr ⟨h, o, rfl⟩
      | bor j => exact po.elim
    cases sl with
    | loan o => exact po.elim
    | no => exact main (fun o z => by cases z) po
    | val p => exact main (fun o z => by cases z) po
    | own o => exact main (fun o z => by cases z) po
def parF (i j : Nat) (f g : M Rs) : M Fl := fun π => (f π).bind fun r1 π1 => (g π1).bind fun r2 π2 => (setR i r1 π2).bind fun _ => setR j r2
section
variable {X : Cx} {c : Ctx} {w : Ws} {a b : Expr} {x y : Str} {px py pt pos : Pos} {kt k2 pt2} {i j : Nat} {f g : M Rs}
theorem s_par (hc : X.calm = true) (hN : X.N.Nodup) (hi : X.N[i]? = some x) (hj : X.N[j]? = some y) (hij : i ≠ j)
    (hx : X.env.scope.names.lookup x = some .local) (hy : X.env.scope.names.lookup y = some .local) (ha : PE X a (tE c w f)) (hb : PE X b (tE c w g))
    (hw : swappedStores [.Tuple [.Name x px, .Name y py] kt pt] (.Tuple [a, b] k2 pt2) X.env = pure (some [x, y]))
    (s1 : starEach [a, b] X.env = (false, eval a X.env) :: starEach [b] X.env := by rfl) (s2 : starEach [b] X.env = (false, eval b X.env) :: starEach [] X.env := by rfl)
    (hs : swapsWithSole [.Tuple [.Name x px, .Name y py] kt pt] (.Tuple [a, b] k2 pt2) pos.line X.env = pure false := by rfl) :
    PS X (.Assign [.Tuple [.Name x px, .Name y py] kt pt] (.Tuple [a, b] k2 pt2) pos) (tS c w (parF i j f g)) :=
  ps_weak (ps_par hc hN hi hj hij hx hy (pa_cons ha (pa_cons hb pa_nil s2) s1) hw hs) fun D σ H ⟨F, π, gg, s, po⟩ => by
    refine ⟨F, π, gg, s, ?_⟩
    unfold parF at po
    cases e0 : f π with
    | bad => rw [e0] at po; exact po
    | exc C qs π1 => rw [e0] at po; exact fun F' H' d t s => po F' σ H' d t s
    | ok r1 π1 =>
      rw [e0] at po
      intro F1 H1 t1 s1 v hv
      refine ⟨F1, π1, w.mono _ _ t1.le gg, s1, ?_⟩
      simp only [Out.bind] at po
      cases e1 : g π1 with
      | bad => rw [e1] at po; exact po
      | exc C qs π2 => rw [e1] at po; exact fun F' H' d t s => po F' σ H' d (t1.trans t) s
      | ok r2 π2 =>
        rw [e1] at po
        intro F2 H2 t2 s2 u hu
        refine ⟨v, u, rfl, ?_⟩
        have hv2 := hv.step t2
        have po2 : PoS c w.W F π σ H ((setR i r1 π2).bind fun _ => setR j r2) (flK c D π σ H) := po
        obtain ⟨π3, e3, s3, t3, o3⟩ := setR_step s2 hv2.rq po2
        rw [e3] at po2
        have po3 : PoS c w.W F π σ H ((setR j r2 π3).bind fun fl π' => .ok fl π') (flK c D π σ H) := by
          have po2' : PoS c w.W F π σ H (setR j r2 π3) (flK c D π σ H) := po2
          cases e5 : setR j r2 π3 with
          | bad => rw [e5] at po2'; exact po2'
          | exc C qs π2 => rw [e5] at po2'; exact po2'
          | ok fl π4 => rw [e5] at po2'; exact po2'
        have T3 := t3 F π σ H (t1.trans t2) fun a o ev er => by
          subst er
          obtain ⟨a', e4, _, _, _, fr⟩ := hv2
          rw [ev] at e4
          cases e4
          exact fr
        have hu3 : RQ c F2 π3 (σ.set i (some v)) H2 r2 u := by
          cases r2 with
          | val p => exact hu
          | bor k => trivial
          | own o =>
            obtain ⟨a2, e4, h1, h2, h3, h4⟩ := hu
            refine ⟨a2, e4, h1, fun z => ?_, h3⟩
            rcases o3 a2 z with q | ⟨q, o1, q2⟩
            · exact h2 q
            · subst q2
              obtain ⟨a1, e5, k1, k2, k3, k4⟩ := hv
              rw [q] at e5
              cases e5
              obtain ⟨uu, hu1⟩ := k3.there
              rcases h4 with h4 | h4
              · rw [hu1] at h4; cases h4
              · exact k2 h4
        obtain ⟨π4, e4, s4, t4, _⟩ := setR_step s3 hu3 po3
        have po4 : PoS c w.W F π σ H (setR j r2 π3) (flK c D π σ H) := po2
        rw [e4] at po4
        refine po4 F2 _ H2 (t4 F π σ H T3 fun a o ev er => ?_) s4
        subst er
        obtain ⟨a', e5, _, _, _, fr⟩ := hu
        rw [ev] at e5
        cases e5
        exact Fr0.back t1 fr
end
end PV

set_option maxHeartbeats 2000000
/-! PVS: a def whose first statement is super().__init__(..), of an own exception class over ValueError. -/
namespace PV
open PySem PySem.Spec L2 NdefX PyProof.Rows

section
variable {X : Cx} {pins : List (Addr × Obj)} {σ : L2.St} {H : Hp} {s : Shared} {a C u : Addr} {E : Value → Shared → Prop} {A : Around}
/-- the bound __init__ of ValueError, called: nothing of it is told -/
theorem mw_call {us : List Value} {Q : Value → Shared → Prop} (T : OexC X.K C) (I : L2.Inv X pins σ H s) (e : H a = some (exo a C none)) (hu : s.heap.get? u = some (PySem.W.kxs_mw "ValueError.__init__" a)) (hl : us.length ≤ sizeLine) (h : ∀ s', L2.Inv X pins σ H s' → Q .none s') :
    wpAny (model X.prog X.w) A (call (.ref u) us) Q E s := by
  obtain ⟨nm, q, N, bs, bm, sn, sub, ab, col, dd, k0, k1, k2, k3, k5, hC, hbm⟩ := T.cls
  obtain ⟨t1, ho⟩ := exo_at I.hok e
  obtain ⟨hp, g, d, t, os⟩ := s
  refine wpAny_call (codeAny_of_tree ?_)
  show wpAny _ A.in1 (callAny (.ref u) ⟨us, []⟩) _ _ _
  simp only [callAny]
  refine wpAny_bind (wpAny_load hu ?_)
  simp only [PySem.W.kxs_mw, show (Value.type "method-wrapper" == Value.type "method" || Value.type "method-wrapper" == Value.type "builtin_function_or_method" || Value.type "method-wrapper" == Value.type "method-wrapper") = true by decide, if_true]
  refine PySem.W.KFB.if_so (by decide) ?_
  refine wpAny_bind (PySem.W.check_bound_init F.excBase_ValueError.toExcCallFacts (I.kIn _ _ hC) ho rfl ?_)
  refine wpAny_bind (wpAny_pure (wpAny_pure ?_))
  refine ⟨plainId_quiet F.excBase_ValueError.init.plain _, codeAny_builtin F.excBase_ValueError.initEntry ?_⟩
  refine PySem.W.exc_init_tree (cls := .ref C) (t0 := t1) (dv := none) (c2 := .none) (c3 := .none) (b4 := .bool false) ho hl fun h' k hx _ => ?_
  have J := I.write (t' := t) (x := a) (e := a) (o := exo a C none) (by rw [e]; exact True.intro) (.inl rfl) k ⟨_, hx⟩ (exo_ok hx)
  have eu : upd H a (exo a C none) = H := by
    funext b
    by_cases hb : b = a
    · rw [hb, upd_same, e]
    · rw [upd_ne hb]
  rw [eu] at J
  exact h _ J
end

/-- what the written part says around a def that says super() -/
structure SupAt (P : Program) (K : PySem.W.Frag) (cc D cda : Addr) : Prop where
  code : ∃ ccl cdd cvs ccs file tf, K.lookup cda = some ⟨ccl, cdd, .fields cvs, ccs⟩ ∧ cvs[2]? = some (.str file tf) ∧ ((P.main.file : Str) == file) = true
  cell : ∃ cl cld csl, K.lookup cc = some ⟨cl, cld, .cell (some (.ref D)), csl⟩
  cls : ∃ cd, PySem.W.clsIn K D = some cd
  top : (P.main.scope.names.lookup ("super" : Str)).isSome = false
  any : PySem.W.nsIn K cStatics "thirdparty.any" = some none
/-- the class of the object that is made -/
structure SupC (K : PySem.W.Frag) (C D : Addr) : Prop where
  oex : OexC K C
  mro : PySem.W.mroIn K C (.ref D) = some true
  sup : PySem.W.ks_superIn K C D "__init__" = some (some (.builtin "ValueError.__init__"))
  sub : PySem.W.subIn K (.ref C) (.type "ValueError") = some true

theorem super_fn {CX : CXT} {P : Program} {w : World} {K : PySem.W.Frag} {mg : Str → Option Value} {base : Heap} {k : Nat} {f : Addr} {name qual : Str} {params : Arguments} {rest : List Stmt} {scope : Scope} {kV doc pm ct oc : Value} {an od : Option Addr} {cda cc D : Addr}
    {osl : Array (Option Value)} {N ps : List Str} {sp : Sp} {e : Expr} {es : List Expr} {p0 p1 ap cp ep : Pos} {ar : Arg}
    (lk : K.lookup f = some ⟨oc, od, .func (PySem.W.fnX name qual params (.Expr (.Call (.Attribute (.Call (.Name "super" p0) [] [] p1) "__init__" ap) (e :: es) [] cp) ep :: rest) scope [("__class__", cc)] .none kV doc pm an (.ref cda) ct), osl⟩)
    (hcd : PySem.W.codeIn K (.ref cda) qual = true) (S : NScope N ps ["__class__"] scope) (len : ∀ vs H Q E, sp vs H Q E → vs.length = ps.length)
    (T : SupAt P K cc D cda) (hms : mg "super" = none) (hks : scope.names.lookup ("super" : Str) = some .globalImplicit) (hp : (params.posonlyargs ++ params.args).head? = some ar) (har : ps[0]? = some ar.arg)
    (hee : ∀ env : Env, starEach (e :: es) env = (false, eval e env) :: starEach es env) (hpl : ∀ env : Env, (backTo cp (starEach es env)).any (·.1) = false) (hps : ∀ env : Env, ∃ pl : Sem Bool, eval (.Call (.Attribute (.Call (.Name "super" p0) [] [] p1) "__init__" ap) (e :: es) [] cp) env = (do
      let ov ← attributeBase (.Call (.Name "super" p0) [] [] p1) "__init__" env (eval (.Call (.Name "super" p0) [] [] p1) env)
      standAt ap.atName
      let (f, first) ← holding [ov] (getMethod ov "__init__" pl)
      callWith cp f first (backTo cp (starEach (e :: es) env)) []))
    (hi : ∀ L, interactive (PySem.W.envX qual scope L f (.ref cda) [("__class__", cc)]) = false) (hsw : ∀ env : Env, swapsWith (.Call (.Attribute (.Call (.Name "super" p0) [] [] p1) "__init__" ap) (e :: es) [] cp) none ep.line env = pure false)
    (hbody : ∀ (A : Around) (outer : List Env) (s : Shared) (H : Hp) (vs : List V) (Q : VK) (E : XK), Room k (A.deeper (envF ⟨name, qual, params, .Expr (.Call (.Attribute (.Call (.Name "super" p0) [] [] p1) "__init__" ap) (e :: es) [] cp) ep :: rest, scope, [("__class__", cc)], cda⟩ f s.heap.objs.size)) → sp vs H Q E →
      ∃ a C ta t, vs[0]? = some (.ref a) ∧ H a = some (exo a C none) ∧ SupC K C D ∧
        PA (ncx CX P w K mg base N ⟨name, qual, params, .Expr (.Call (.Attribute (.Call (.Name "super" p0) [] [] p1) "__init__" ap) (e :: es) [] cp) ep :: rest, scope, [("__class__", cc)], cda⟩ f A outer s H E) (e :: es) ta ∧
        PSs (ncx CX P w K mg base N ⟨name, qual, params, .Expr (.Call (.Attribute (.Call (.Name "super" p0) [] [] p1) "__init__" ap) (e :: es) [] cp) ep :: rest, scope, [("__class__", cc)], cda⟩ f A outer s H E) rest t ∧
        ta (startF N vs [none]) H (fun ws H1 => ws.length ≤ 1000 ∧ H1 a = some (exo a C none) ∧ t { nx := fun _ H' => Q .non H', rt := Q } (startF N vs [none]) H1)) :
    FnOk P w K mg base CX (k + 1) f (PySem.W.fnX name qual params (.Expr (.Call (.Attribute (.Call (.Name "super" p0) [] [] p1) "__init__" ap) (e :: es) [] cp) ep :: rest) scope [("__class__", cc)] .none kV doc pm an (.ref cda) ct) ps sp := by
  refine ⟨len, fun A outer s H args us vs Q E hr e0 hb r hsp => ?_⟩
  have hl := len _ _ _ _ hsp
  have KX : K.In s.heap := e0.mod.kin.keeps fun b o e => (e0.bs b o e).1
  have lim : s.heap.NoLimit := e0.mod.nolimit.keeps fun b o e => (e0.bs b o e).1
  obtain ⟨ccl, cdd, cvs, ccs, file, tf, lcode, hvs, hfile⟩ := T.code
  obtain ⟨cl0, cld, csl, lcell⟩ := T.cell
  have inB : ∀ {b : Addr} {o : Obj}, K.lookup b = some o → H b = none := fun {b o} q => (e0.bs b o (e0.mod.kin _ _ q)).2
  have Cc : CellsAt [("__class__", cc)] ["__class__"] [none] s.heap H := by
    have lk1 : ∀ y c, List.lookup y [(("__class__" : Str), cc)] = some c → y = "__class__" ∧ c = cc := fun y c q => by
      have q' : (match y == ("__class__" : Str) with | true => some cc | false => none) = some c := q
      cases e3 : y == ("__class__" : Str) with
      | true => rw [e3] at q'; exact ⟨by simpa using e3, (Option.some.inj q').symm⟩
      | false => rw [e3] at q'; cases q'
    refine ⟨rfl, fun y c q => ?_, fun x y c q1 q2 => ?_, fun i y q => ?_⟩
    · obtain ⟨_, rfl⟩ := lk1 y c q
      exact ⟨inB lcell, _, _, KX _ _ lcell, rfl⟩
    · rw [(lk1 x c q1).1, (lk1 y c q2).1]
    · have hy : y = "__class__" := by
        cases i with
        | zero => simpa using q.symm
        | succ i => simp at q
      subst hy
      refine ⟨cc, rfl, fun v q => ?_⟩
      cases i with
      | zero => simp at q
      | succ i => simp at q
  refine ks_codeAny_call_defAt (binds := ps.zip us) hr.depth (KX _ _ lk) rfl lim (PySem.W.codeRec_of KX hcd) rfl hb S.nocell (fun ⟨n, _⟩ hy => S.par n (List.of_mem_zip hy).1) (fun h₁ hns kp => ?_) S.co S.gen S.kind
  have kp' : ∀ b o, s.heap.get? b = some o → h₁.get? b = some o := kp
  obtain ⟨a, C, ta, t, hv0, hHa, SC, hA, hR, hq⟩ := hbody A outer s H vs Q E (hr.deeper _) hsp
  have I : L2.Inv (ncx CX P w K mg base N ⟨name, qual, params, .Expr (.Call (.Attribute (.Call (.Name "super" p0) [] [] p1) "__init__" ap) (e :: es) [] cp) ep :: rest, scope, [("__class__", cc)], cda⟩ f A outer s H E) [] (startF N vs [none]) H { s with heap := h₁, toks := s.toks + (ps.zip us).length } :=
    inv_startN S hr.hd e0 hl r Cc hns kp'
  have fin : ∀ {σ' : L2.St} {H' : Hp} {v : V} {u : Value} {s' : Shared}, L2.Inv (ncx CX P w K mg base N ⟨name, qual, params, .Expr (.Call (.Attribute (.Call (.Name "super" p0) [] [] p1) "__init__" ap) (e :: es) [] cp) ep :: rest, scope, [("__class__", cc)], cda⟩ f A outer s H E) [] σ' H' s' → L2.RelV v u → Q v H' → CE outer P w H s Q u s' :=
    fun {σ' H' v u s'} J rv q => ⟨v, H', J.os, J.bare, J.base, J.hok, rv, q⟩
  obtain ⟨cdD, hD⟩ := T.cls
  obtain ⟨u0, hu0, ru0⟩ := r.get hv0
  obtain rfl : u0 = Value.ref a := ru0
  have KI := I.kIn
  obtain ⟨oD, hD1, hD2⟩ : ∃ oD, h₁.get? D = some oD ∧ oD.data = .cls cdD := by
    unfold PySem.W.clsIn at hD
    split at hD
    · rename_i c d cd' sl ho
      cases hD
      exact ⟨_, KI _ _ ho, rfl⟩
    · cases hD
  obtain ⟨t1, hoa⟩ := exo_at I.hok hHa
  obtain ⟨pl, hcall⟩ := hps (PySem.W.envX qual scope s.heap.objs.size f (.ref cda) [("__class__", cc)])
  have hkc : scope.names.lookup ("__class__" : Str) = some .free := S.frk _ List.mem_cons_self
  have ndP : ps.Nodup := by
    have q : (ps ++ [("__class__" : Str)]).Nodup := by rw [← S.pre]; exact S.nd.sublist (List.take_sublist _ N)
    exact (List.nodup_append.mp q).1
  show _root_.PySem.wpAt (model P w) (A.deeper (PySem.W.ksEnv qual scope s.heap.objs.size f (.ref cda) cc)) (.func _ (PySem.W.ksEnv qual scope s.heap.objs.size f (.ref cda) cc)) (execs _ (PySem.W.ksEnv qual scope s.heap.objs.size f (.ref cda) cc)) _ _ _
  refine ks_wpAt_execs_cons (ks_wpAt_Expr_any (ks_wpAt_MethodCall ?_ hcall) (hi _) (hsw _))
  refine ks_wpAt_super_base (env := PySem.W.ksEnv qual scope s.heap.objs.size f (.ref cda) cc) hks hkc (by decide) rfl (KI _ _ lk) rfl hp rfl (KI _ _ lcode) rfl hvs hfile T.top ?_
  obtain ⟨mb, hb1, hb2⟩ := I.mod.blt
  refine PySem.W.ks_loadName_global S.kind hks (Calls.loadGlobal_builtin (env := PySem.W.ksEnv qual scope s.heap.objs.size f (.ref cda) cc) (I.mod.glob.keeps I.bk) hms (hb1.keeps I.bk) ((hb2 _ (by decide)).trans (show bootBuiltins "super" = some (.type "super") by decide +kernel)) ⟨rfl, ?_⟩)
  refine wpAny_loadName_free S.kind hkc rfl ⟨_, KI _ _ lcell, rfl⟩ ?_
  refine wpAny_loadName_local (m := fun y => (ps.zip us).reverse.lookup y) S.kind (S.par _ (List.mem_of_getElem? har)) hns (zip_look ndP har hu0) ?_
  refine ks_wpAny_isType_cls hD1 hD2 ⟨rfl, ?_⟩
  refine ks_wpAny_call_super hD1 hD2 hoa rfl (fun c q => by cases q) (PySem.W.looks_mroIn KI SC.mro) (fun h2 hso k2 => ?_)
  have I2 := I.kept (t' := s.toks + (ps.zip us).length) k2
  cases hcm : PySem.W.clsIn K C with
  | none =>
    have z := SC.sup
    unfold PySem.W.ks_superIn at z
    rw [hcm] at z
    cases z
  | some cd =>
    have hsup := SC.sup
    unfold PySem.W.ks_superIn at hsup
    rw [hcm] at hsup
    have KI2 := I2.kIn
    have hoa2 := k2 _ _ hoa
    have hxC : a ≠ C := fun z => by
      unfold PySem.W.clsIn at hcm
      split at hcm
      · rename_i c d cd' sl ho
        have q := inB ho
        rw [← z, hHa] at q
        cases q
      · cases hcm
    have LT : PySem.W.Looks (model P w) h2 (typeOf (.ref a)) (.ref C) := fun A Q E s k q => wpAny_typeOf_ref (k _ _ hoa2) q
    have LI : PySem.W.Looks (model P w) h2 (isInstance (.ref a) (.type "ValueError")) true := LT.andThen (PySem.W.looks_subIn KI2 SC.sub)
    refine PySem.W.kxs_getMethod PySem.W.kxs_ValueError hso (PySem.W.looks_opaque KI2 T.any) (l₀ := cd.mro) ?_ rfl KI2 hsup LI hxC (by decide) ?_
    · exact fun A Q E s k q => wpAny_bind ((PySem.W.looks_clsIn KI2 hcm) A _ E s k (wpAny_pure q))
    · have I3 := I2.kept (h' := h2.push (PySem.W.kxs_mw "ValueError.__init__" a)) (t' := s.toks + (ps.zip us).length + 1) fun b o q => Heap.get?_push_of_some _ q
      have hu3 : (h2.push (PySem.W.kxs_mw "ValueError.__init__" a)).get? h2.objs.size = some (PySem.W.kxs_mw "ValueError.__init__" a) := Heap.get?_push_size _ rfl
      have I4 := I3.pins_of (pins' := [(h2.objs.size, PySem.W.kxs_mw "ValueError.__init__" a)]) fun p hp => by
        have e1 : p = (h2.objs.size, PySem.W.kxs_mw "ValueError.__init__" a) := by simpa using hp
        subst e1
        exact ⟨hu3, I2.hok.fresh (Nat.le_refl _), Nat.ne_of_gt I2.lt, I2.nofs (Nat.le_refl _), fun v q => by cases q⟩
      refine PySem.W.kxs_callWith (i := "ValueError.__init__") (x := a) (by rw [hee]; exact (Bool.false_or _).trans (hpl _)) ?_
      rw [hee]
      refine Calls.evalArgs_plain ?_
      have hrun := hA.run cp _ _ _ _ _ I4 hq
      rw [show starEach (e :: es) (ncx CX P w K mg base N ⟨name, qual, params, .Expr (.Call (.Attribute (.Call (.Name "super" p0) [] [] p1) "__init__" ap) (e :: es) [] cp) ep :: rest, scope, [("__class__", cc)], cda⟩ f A outer s H E).env = _ from hee _] at hrun
      refine thn hrun fun us4 s4 ⟨vs4, H4, I5, r4, hz, hH4, q4⟩ => ?_
      have hu5 := (I5.pin (h2.objs.size, PySem.W.kxs_mw "ValueError.__init__" a) (List.mem_append_right _ List.mem_cons_self)).1
      refine ⟨hu5, mw_call SC.oex I5 hH4 hu5 (by have q := Paired.length r4; have q2 := sizeLine_eq; show us4.length ≤ _; omega) fun s5 I6 => ?_⟩
      refine wpAt_of_wpAny (wpAny_mono (hR.run [] s5 _ H4 _ (I6.pins_of fun p hp => by cases hp) q4) (fun fl s' hs => ?_) fun e s' hs => hs)
      cases fl with
      | ret u =>
        obtain ⟨v, σ', H', J, rv, q⟩ := hs
        exact fin J rv q
      | next =>
        obtain ⟨σ', H', J, q⟩ := hs
        exact fin (v := V.non) (u := Value.none) J rfl q
      | brk =>
        obtain ⟨_, _, _, q⟩ := hs
        exact False.elim q
      | cont =>
        obtain ⟨_, _, _, q⟩ := hs
        exact False.elim q
end PV

namespace PV
open PySem PySem.Spec L2 NdefX PyProof.Rows

/-! ### own exception classes -/
/-- the promise of an own exception's __init__: n fields -/
def spI (C : Addr) (n : Nat) (fls : List Str) : Sp := fun vs H Q _ => ∃ (a : Addr) (ws : List V), vs = .ref a :: ws ∧ ws.length = n ∧ H a = some (exo a C none) ∧
  ∀ (d : Addr) (H2 : Hp), H d = none → d ≠ a → H2 a = some (exo a C (some d)) → H2 d = some (exd d (fls.zip ws).reverse) → (∀ b, b ≠ a → b ≠ d → H2 b = H b) → Q .non H2

section
variable {CX : CXT} {P : Program} {w : World} {K : PySem.W.Frag} {mg : Str → Option Value} {base : Heap} {k : Nat} {f : Addr} {name qual : Str} {params : Arguments} {scope : Scope} {kV doc pm ct oc : Value} {an od : Option Addr} {cda cc D C : Addr}
    {osl : Array (Option Value)}
theorem init1_ok {x f1 : Str} {p0 p1 ap cp ep px q0 q1 q2 q3 : Pos}
    (lk : K.lookup f = some ⟨oc, od, .func (PySem.W.fnX name qual params [.Expr (.Call (.Attribute (.Call (.Name "super" p0) [] [] p1) "__init__" ap) [.Name x px] [] cp) ep, .Assign [.Attribute (.Name "self" q0) f1 q1] (.Name x q2) q3] scope [("__class__", cc)] .none kV doc pm an (.ref cda) ct), osl⟩)
    (hcd : PySem.W.codeIn K (.ref cda) qual = true) (S : NScope ["self", x, "__class__"] ["self", x] ["__class__"] scope)
    (T : SupAt P K cc D cda) (hms : mg "super" = none) (hks : scope.names.lookup ("super" : Str) = some .globalImplicit) (hp : ((params.posonlyargs ++ params.args).head?.map (·.arg)) = some "self")
    (hi : interactive (PySem.W.envX qual scope 0 f (.ref cda) [("__class__", cc)]) = false) (hx1 : (x == ("__debug__" : Str)) = false) (hx2 : (x == ("__classdict__" : Str)) = false) (hx3 : scope.names.lookup x = some .local) (hs3 : scope.names.lookup ("self" : Str) = some .local)
    (hps : ∀ env : Env, ∃ pl : Sem Bool, eval (.Call (.Attribute (.Call (.Name "super" p0) [] [] p1) "__init__" ap) [.Name x px] [] cp) env = (do
      let ov ← attributeBase (.Call (.Name "super" p0) [] [] p1) "__init__" env (eval (.Call (.Name "super" p0) [] [] p1) env)
      standAt ap.atName
      let (f, first) ← holding [ov] (getMethod ov "__init__" pl)
      callWith cp f first (backTo cp (starEach [.Name x px] env)) []))
    (SC : SupC K C D) (hno : PySem.W.findIn K (.ref C) f1 = some none) :
    FnOk P w K mg base CX (k + 1) f (PySem.W.fnX name qual params [.Expr (.Call (.Attribute (.Call (.Name "super" p0) [] [] p1) "__init__" ap) [.Name x px] [] cp) ep, .Assign [.Attribute (.Name "self" q0) f1 q1] (.Name x q2) q3] scope [("__class__", cc)] .none kV doc pm an (.ref cda) ct) ["self", x] (spI C 1 [f1]) := by
  cases har : (params.posonlyargs ++ params.args).head? with
  | none => rw [har] at hp; cases hp
  | some ar =>
    rw [har] at hp
    have hself : ar.arg = "self" := Option.some.inj hp
    refine super_fn lk hcd S (fun vs H Q E ⟨a, ws, e, hl, _⟩ => by rw [e, List.length_cons, hl]; rfl) T hms hks har (by rw [hself]; rfl) (fun _ => rfl) (fun _ => rfl) hps (fun L => hi) (fun _ => rfl) fun A outer s H vs Q E hr hsp => ?_
    obtain ⟨a, ws, rfl, hl, ea, q⟩ := hsp
    obtain ⟨v, rfl⟩ : ∃ v, ws = [v] := by
      match ws, hl with
      | [v], _ => exact ⟨v, rfl⟩
    refine ⟨a, C, tCons (tVar 1) tNil, tOst K f1 (tVar 0) (tVar 1), rfl, ea, SC, pa_cons (pe_var (i := 1) rfl (.inl hx3) hx1 hx2) pa_nil rfl, pss_one (ps_ost (pe_var (i := 0) rfl (.inl hs3) (by decide) (by decide)) (pe_var (i := 1) rfl (.inl hx3) hx1 hx2)), ?_⟩
    refine ⟨v, rfl, by simp, ea, v, rfl, .ref a, rfl, a, C, rfl, SC.oex, hno, .inl ⟨ea, fun d hd hda => ?_⟩⟩
    refine q d _ hd hda upd_same (by rw [upd_ne hda, upd_same]; rfl) fun b h1 h2 => by rw [upd_ne h1, upd_ne h2]
theorem init2_ok {x y f1 f2 : Str} {p0 p1 ap cp ep px py q0 q1 q2 q3 r0 r1 r2 r3 : Pos}
    (lk : K.lookup f = some ⟨oc, od, .func (PySem.W.fnX name qual params [.Expr (.Call (.Attribute (.Call (.Name "super" p0) [] [] p1) "__init__" ap) [.Name x px, .Name y py] [] cp) ep, .Assign [.Attribute (.Name "self" q0) f1 q1] (.Name x q2) q3, .Assign [.Attribute (.Name "self" r0) f2 r1] (.Name y r2) r3] scope [("__class__", cc)] .none kV doc pm an (.ref cda) ct), osl⟩)
    (hcd : PySem.W.codeIn K (.ref cda) qual = true) (S : NScope ["self", x, y, "__class__"] ["self", x, y] ["__class__"] scope)
    (T : SupAt P K cc D cda) (hms : mg "super" = none) (hks : scope.names.lookup ("super" : Str) = some .globalImplicit) (hp : ((params.posonlyargs ++ params.args).head?.map (·.arg)) = some "self")
    (hi : interactive (PySem.W.envX qual scope 0 f (.ref cda) [("__class__", cc)]) = false) (hx1 : (x == ("__debug__" : Str)) = false) (hx2 : (x == ("__classdict__" : Str)) = false) (hx3 : scope.names.lookup x = some .local) (hs3 : scope.names.lookup ("self" : Str) = some .local)
    (hy1 : (y == ("__debug__" : Str)) = false) (hy2 : (y == ("__classdict__" : Str)) = false) (hy3 : scope.names.lookup y = some .local)
    (hps : ∀ env : Env, ∃ pl : Sem Bool, eval (.Call (.Attribute (.Call (.Name "super" p0) [] [] p1) "__init__" ap) [.Name x px, .Name y py] [] cp) env = (do
      let ov ← attributeBase (.Call (.Name "super" p0) [] [] p1) "__init__" env (eval (.Call (.Name "super" p0) [] [] p1) env)
      standAt ap.atName
      let (f, first) ← holding [ov] (getMethod ov "__init__" pl)
      callWith cp f first (backTo cp (starEach [.Name x px, .Name y py] env)) []))
    (SC : SupC K C D) (hno : PySem.W.findIn K (.ref C) f1 = some none) (hno2 : PySem.W.findIn K (.ref C) f2 = some none) :
    FnOk P w K mg base CX (k + 1) f (PySem.W.fnX name qual params [.Expr (.Call (.Attribute (.Call (.Name "super" p0) [] [] p1) "__init__" ap) [.Name x px, .Name y py] [] cp) ep, .Assign [.Attribute (.Name "self" q0) f1 q1] (.Name x q2) q3, .Assign [.Attribute (.Name "self" r0) f2 r1] (.Name y r2) r3] scope [("__class__", cc)] .none kV doc pm an (.ref cda) ct) ["self", x, y] (spI C 2 [f1, f2]) := by
  cases har : (params.posonlyargs ++ params.args).head? with
  | none => rw [har] at hp; cases hp
  | some ar =>
    rw [har] at hp
    have hself : ar.arg = "self" := Option.some.inj hp
    refine super_fn lk hcd S (fun vs H Q E ⟨a, ws, e, hl, _⟩ => by rw [e, List.length_cons, hl]; rfl) T hms hks har (by rw [hself]; rfl) (fun _ => rfl) (fun _ => rfl) hps (fun L => hi) (fun _ => rfl) fun A outer s H vs Q E hr hsp => ?_
    obtain ⟨a, ws, rfl, hl, ea, q⟩ := hsp
    obtain ⟨v, v2, rfl⟩ : ∃ v v2, ws = [v, v2] := by
      match ws, hl with
      | [v, v2], _ => exact ⟨v, v2, rfl⟩
    refine ⟨a, C, tCons (tVar 1) (tCons (tVar 2) tNil), tSeq (tOst K f1 (tVar 0) (tVar 1)) (tOst K f2 (tVar 0) (tVar 2)), rfl, ea, SC, pa_cons (pe_var (i := 1) rfl (.inl hx3) hx1 hx2) (pa_cons (pe_var (i := 2) rfl (.inl hy3) hy1 hy2) pa_nil rfl) rfl,
      pss_cons (ps_ost (pe_var (i := 0) rfl (.inl hs3) (by decide) (by decide)) (pe_var (i := 1) rfl (.inl hx3) hx1 hx2)) (pss_one (ps_ost (pe_var (i := 0) rfl (.inl hs3) (by decide) (by decide)) (pe_var (i := 2) rfl (.inl hy3) hy1 hy2))), ?_⟩
    refine ⟨v, rfl, v2, rfl, by simp, ea, v, rfl, .ref a, rfl, a, C, rfl, SC.oex, hno, .inl ⟨ea, fun d hd hda => ?_⟩⟩
    refine ⟨v2, rfl, .ref a, rfl, a, C, rfl, SC.oex, hno2, .inr ⟨d, [(f1, v)], upd_same, by rw [upd_ne hda, upd_same], by simp, ?_⟩⟩
    refine q d _ hd hda (by rw [upd_ne (Ne.symm hda), upd_same]) (by rw [upd_same]; rfl) fun b h1 h2 => by rw [upd_ne h2, upd_ne h1, upd_ne h2]
end
end PV

namespace PV
open PySem PySem.Spec L2 NdefX PyProof.Rows

/-! ### raise C(e, ..) -/
theorem gr_new {F H : Hp} {a : Addr} {u : HO} (l : Le F H) (h : H a = none) : Gr F H (L2.upd F a u) (L2.upd H a u) :=
  ⟨Le.new _ (l.gone h), l.upd _ _, fun b o e => by rw [upd_ne (ne_of_none e h)]; exact e, fun b e => by
    by_cases z : b = a
    · subst z; exact .inr h
    · rw [upd_ne z] at e; exact .inl e⟩
/-- what the walk knows of the class numbered C: its name x, its __init__ -/
structure ExK (P : Program) (w : World) (K : PySem.W.Frag) (mg : Str → Option Value) (base : Heap) (c : Ctx) (k C n : Nat) (x : Str) (ps : List Str) : Prop where
  oex : OexC K (c.cls C)
  ini : ∃ fI fd, PySem.W.findIn K (.ref (c.cls C)) "__init__" = some (some (.ref fI)) ∧ PySem.W.typeIn K (.ref fI) = some (.type "function") ∧ FnOk P w K mg base (L2.CX P w) k fI fd ps (spI (c.cls C) n (c.lay C)) ∧ Binds K fd ps []
  mg : mg x = some (.ref (c.cls C))
def raiseR (C n : Nat) (rs : List Rs) : M Fl := fun π => match vals rs with
  | some ps => if ps.length = n ∧ n ≤ 1000 then .exc C ps π else .bad
  | none => .bad
def raiseF (C n : Nat) (fa : M (List Rs)) : M Fl := fun π => (fa π).bind (raiseR C n)
theorem s_raise {X : Cx} {c : Ctx} {w : Ws} {k C n : Nat} {x : Str} {ps : List Str} {e : Expr} {es : List Expr} {p pos pos2 : Pos} {fa : M (List Rs)} (hc : X.calm = true) (tk : Takes X w.W) (E : ExK X.prog X.w X.K X.mg X.base c k C n x ps) (hr : Room (k + 1) X.A) (hg : Gl X x)
    (ha : PA X (e :: es) (tR c w fa)) (hdb : (x == ("__debug__" : Str)) = false := by decide) (he : starEach (e :: es) X.env = (false, eval e X.env) :: starEach es X.env := by rfl) (hpl : (backTo pos (starEach es X.env)).any (·.1) = false := by rfl) :
    PS X (.Raise (some (.Call (.Name x p) (e :: es) [] pos)) none pos2) (tS c w (raiseF C n fa)) := by
  obtain ⟨fI, fd, iC, tI, F1, hb⟩ := E.ini
  refine ps_weak (ps_raise hc tk (pmk_oex E.oex iC tI F1 hr hb .nil passL hg E.mg ha hdb he hpl)) fun D σ H ⟨F, π, gg, s, po⟩ => ?_
  refine ⟨F, π, gg, s, ?_⟩
  unfold raiseF at po
  cases e0 : fa π with
  | bad => rw [e0] at po; exact po
  | exc C' qs π1 => rw [e0] at po; exact fun F' H' d t s => po F' σ H' d t s
  | ok rs π1 =>
    rw [e0] at po
    intro F1 H1 t1 s1 vs hv
    simp only [Out.bind, raiseR] at po
    cases e1 : vals rs with
    | none => rw [e1] at po; exact po.elim
    | some qs =>
      rw [e1] at po
      by_cases hn : qs.length = n ∧ n ≤ 1000
      case neg => simp only [if_neg hn] at po; exact po.elim
      simp only [if_pos hn] at po
      have rv := vals_rps hv e1
      have hl := rps_len rv
      refine ⟨by omega, fun a ha => ⟨a, vs ++ [], rfl, by rw [List.append_nil]; omega, upd_same, fun d H2 hd hda e2 e3 e4 => ⟨rfl, d, _, e2, e3, by rw [upd_ne hda] at hd; exact hd, ?_⟩⟩⟩
      rw [upd_ne hda] at hd
      rw [List.append_nil] at e3 ⊢
      have eu : upd (del H2 a) d (.xd ((c.lay C).zip vs).reverse) = upd H1 d (.xd ((c.lay C).zip vs).reverse) := by
        funext b
        by_cases z : b = d
        · subst z; rw [upd_same, upd_same]
        · rw [upd_ne z, upd_ne z]
          by_cases y : b = a
          · subst y; rw [del_same, ha]
          · rw [del_ne y, e4 b y z, upd_ne y]
      rw [eu]
      have gr : Gr F1 H1 (upd F1 d (.xd ((c.lay C).zip vs).reverse)) (upd H1 d (.xd ((c.lay C).zip vs).reverse)) := gr_new s1.le hd
      exact po _ σ _ (some d) (t1.trans gr.tr) (gr.sr s1) (.inr ⟨d, vs, rfl, upd_same, Rps.mono gr.le _ _ rv⟩)

/-! ### try: .. except C as e: .. -/
/-- the guard within the suite: slot i holds the exception at a -/
def wx (c : Ctx) (w : Ws) (i : Nat) (a : Addr) (d : Option Addr) (C : Nat) (ps : List P) : Wi := ⟨fun _ _ _ _ => False, fun σ F => w.g F ∧ σ[i]? = some (some (.ref a)) ∧ XdOk c F C ps d, fun {σ} F F' l h => ⟨w.mono _ _ l h.1, h.2.1, by
  rcases h.2.2 with h | ⟨b, vs, e1, e2, e3⟩
  · exact .inl h
  · exact .inr ⟨b, vs, e1, l.xd e2, Rps.mono l _ _ e3⟩⟩⟩
/-- a suite's first statement -/
def tX (c : Ctx) (w' : Wi) (w : Ws) (f : M Fl) : TS := fun D σ H => ∃ F π, w'.g σ F ∧ w.g F ∧ SR c F π σ H ∧ PoS c (fun _ _ _ _ => False) F π σ H (f π) (flK c D π σ H)
def notL (π : En) (i : Nat) : Bool := match π[i]? with
  | none => false
  | some (.loan _) => false
  | some _ => true
def hndR (i : Nat) (o : Out Fl) : Out Fl := match o with
  | .ok fl π2 => if notL π2 i = true then .ok fl (π2.set i .no) else .bad
  | _ => .bad
def tryF (sb : Nat → Nat → Bool) (m i C : Nat) (fb : M Fl) (fh : Nat → List P → M Fl) : M Fl := fun π => match fb π with
  | .exc C' ps π1 => if C' < m then (if sb C' C = true then (if notL π1 i = true then hndR i (fh C' ps (π1.set i .no)) else .bad) else .exc C' ps π1) else .bad
  | o => o
theorem notL_at {π : En} {i : Nat} (h : notL π i = true) : i < π.length ∧ ∀ o, π[i]? ≠ some (.loan o) := by
  unfold notL at h
  cases q : π[i]? with
  | none => rw [q] at h; cases h
  | some sl =>
    refine ⟨(List.getElem?_eq_some_iff.mp q).1, fun o e => ?_⟩
    cases e
    rw [q] at h; cases h
theorem SR.noset {c : Ctx} {F H : Hp} {π : En} {σ : L2.St} {i : Nat} (s : SR c F π σ H) (h : notL π i = true) (x : Option V) : SR c F (π.set i .no) (σ.set i x) H ∧ ∀ F0 π0 σ0 H0, Tr F0 π0 σ0 H0 F π σ H → Tr F0 π0 σ0 H0 F (π.set i .no) (σ.set i x) H := by
  obtain ⟨h1, h2⟩ := notL_at h
  obtain ⟨s2, t2⟩ := s.set h1 h2 .no x (fun p e => by cases e) (fun o e => by cases e) (fun o e => by cases e)
  exact ⟨s2, fun F0 π0 σ0 H0 t => t2 _ _ _ _ t fun a e ⟨o, h⟩ => by cases h⟩
section
variable {X : Cx} {c : Ctx} {w : Ws} {x n : Str} {i C m : Nat} {body suite : List Stmt} {b₀ : Stmt} {np pos pos' : Pos} {sb : Nat → Nat → Bool} {fb : M Fl} {fh : Nat → List P → M Fl}
theorem s_tryAs (hs : X.stack = X.env :: X.outer) (hf : X.env.frame = some X.env.locals) (hN : X.N.Nodup) (hi : X.N[i]? = some n) (hln : X.env.kindOf n = some .local) (hcn : Names X x (.ref (c.cls C))) (tk : Takes X w.W)
    (hex : ∀ C', C' < m → PySem.W.exmOne X.K (.ref (c.cls C')) (.ref (c.cls C)) = some (sb C' C))
    (hb : ∀ (W : WX) (pn : List (Addr × Obj)) (xe : Value → Shared → Prop), Takes (X.tr pn xe) W → PassesOwn (model X.prog X.w) X.A X.env xe → PSs (X.tr pn xe) body (tS c ⟨W, w.g, w.mono⟩ fb))
    (hsu : ∀ (C' : Nat) (ps : List P) (a : Addr) (oe : Obj) (d : Option Addr) (pn : List (Addr × Obj)), C' < m → sb C' C = true → Zc (.ref (c.cls C')) d oe → (∃ vs, oe.data = .fields vs) → PSs (X.suite a ((a, oe) :: pn)) (b₀ :: suite) (tX c (wx c w i a d C' ps) w (fh C' ps))) :
    PS X (.Try body [.ExceptHandler (some (.Name x np)) (some n) (b₀ :: suite) pos'] [] [] pos) (tS c w (tryF sb m i C fb fh)) := by
  refine ps_weak (ps_try_as (i := i) (tb := fun W => tS c ⟨W, w.g, w.mono⟩ fb)
    (ts := fun a cls d D σ H => ∃ C' ps, C' < m ∧ sb C' C = true ∧ cls = .ref (c.cls C') ∧ tX c (wx c w i a d C' ps) w (fh C' ps) D σ H) (Wout := w.W) hs hf hN hi hln hcn tk hb fun a oe cls d pn hz hv => ⟨fun pins s σ H D I ⟨C', ps, h1, h2, h3, h4⟩ => ?_⟩) fun D σ H ⟨F, π, gg, s, po⟩ => ?_
  · subst h3
    exact (hsu C' ps a oe d pn h1 h2 hz hv).run pins s σ H D I h4
  · refine ⟨F, π, gg, s, ?_⟩
    unfold tryF at po
    cases e0 : fb π with
    | bad => rw [e0] at po; exact po
    | ok fl π1 => rw [e0] at po; exact po
    | exc C' ps π1 =>
      rw [e0] at po
      intro F' σ' H' d t s' xd
      by_cases hm : C' < m
      case neg => simp only [if_neg hm] at po; exact po.elim
      simp only [if_pos hm] at po
      refine ⟨sb C' C, hex C' hm, fun hb a ha => ⟨C', ps, hm, hb, rfl, ?_⟩, fun hb => ?_⟩
      · simp only [if_pos hb] at po
        by_cases hl : notL π1 i = true
        case neg => simp only [if_neg hl] at po; exact po.elim
        simp only [if_pos hl] at po
        obtain ⟨s1, t1⟩ := s'.noset hl (some (.ref a))
        have T1 := t1 _ _ _ _ t
        have hσ : i < σ'.length := by rw [← s'.len]; exact (notL_at hl).1
        refine ⟨F', π1.set i .no, ⟨w.mono _ _ t.le gg, by rw [List.getElem?_set_self hσ], xd⟩, w.mono _ _ t.le gg, s1, ?_⟩
        cases e2 : fh C' ps (π1.set i .no) with
        | bad => rw [e2] at po; exact po
        | exc C2 qs π2 => rw [e2] at po; exact po.elim
        | ok fl π2 =>
          rw [e2] at po
          unfold hndR at po
          by_cases hl2 : notL π2 i = true
          case neg => simp only [if_neg hl2] at po; exact po.elim
          simp only [if_pos hl2] at po
          intro F2 σ2 H2 t2 s2
          obtain ⟨s3, t3⟩ := s2.noset hl2 none
          have K := po F2 _ H2 (t3 _ _ _ _ (T1.trans t2)) s3
          cases fl with
          | nx => exact K
          | bk => exact K
          | ct => exact K
          | rt r =>
            intro v hv
            refine K v ?_
            cases r with
            | val p => exact hv
            | own o =>
              obtain ⟨a2, e1, h1, h2, h3, h4⟩ := hv
              refine ⟨a2, e1, h1, fun ⟨j, o', q1, q2⟩ => h2 ?_, h3, ?_⟩
              · by_cases z : j = i
                · subst z
                  rw [List.getElem?_set_self (notL_at hl2).1] at q1
                  cases q1
                · rw [List.getElem?_set_ne (Ne.symm z)] at q1 q2
                  exact ⟨j, o', q1, q2⟩
              · exact Fr0.back T1 h4
      · simp only [hb, Bool.false_eq_true, if_false] at po
        exact po F' σ' H' d t s' xd
end
/-! .. in the suite -/
/-- e.f -/
def xfF (ps : List P) (k : Nat) : M Rs := fun π => match ps[k]? with
  | some p => .ok (.val p) π
  | none => .bad
section
variable {X : Cx} {c : Ctx} {w : Ws} {a : Addr} {oe : Obj} {d : Option Addr} {pn : List (Addr × Obj)} {x n : Str} {i k C : Nat} {ps : List P} {pos pos2 : Pos}
theorem p_xf (T : XfC X.K (c.cls C)) (hno : PySem.W.findIn X.K (.ref (c.cls C)) n = some none) (hz : Zc (.ref (c.cls C)) d oe) (hf : ∃ vs, oe.data = .fields vs) (hN : X.N[i]? = some x) (hv : Vis X.env.scope x)
    (hlay : ∀ vs : List V, ps.length = vs.length → ((c.lay C).zip vs).reverse.lookup n = vs[k]?) (hne : c.lay C ≠ [])
    (hd : (x == ("__debug__" : Str)) = false := by decide) (hcd : (x == ("__classdict__" : Str)) = false := by decide)
    (hb : attributeBase (.Name x pos2) n X.env (eval (.Name x pos2) X.env) = eval (.Name x pos2) X.env := by rfl) :
    PE (X.suite a ((a, oe) :: pn)) (.Attribute (.Name x pos2) n pos) (tE c (wx c w i a d C ps) (xfF ps k)) :=
  pe_weak (pe_xf T hno hz hf (pe_var (X := X.suite a ((a, oe) :: pn)) (i := i) hN hv hd hcd) hb) fun σ H Q ⟨F, π, ⟨g0, g1, g2⟩, s, po⟩ => by
    unfold xfF at po
    refine ⟨.ref a, g1, rfl, rfl, ?_⟩
    rcases g2 with ⟨e, _⟩ | ⟨b, vs, e1, e2, e3⟩
    · exact absurd e hne
    · cases e4 : ps[k]? with
      | none => rw [e4] at po; exact po.elim
      | some p =>
        rw [e4] at po
        obtain ⟨v, e5, r⟩ := rps_get e3 e4
        exact ⟨b, _, v, e1, s.le.xd e2, by rw [hlay vs (rps_len e3)]; exact e5, po F H .refl s v r⟩
end
/-! first statements of a suite -/
section
variable {X : Cx} {c : Ctx} {w' : Wi} {w : Ws} {st : Stmt} {rest body orelse : List Stmt} {e cnd : Expr} {pos pos' : Pos} {f g : M Fl} {fe : M Rs} {ft : M Bool}
theorem x_cons (h1 : PS X st (tX c w' w f)) (h2 : PSs X rest (tS c w.blk g)) : PSs X (st :: rest) (tX c w' w (seqF f g)) := pss_weak (pss_cons h1 h2) fun D σ H ⟨F, π, gx, gg, s, po⟩ => by
  refine ⟨F, π, gx, gg, s, (PoS.splitS po).mono fun fl π1 F1 σ1 H1 t s1 p1 => ?_⟩
  cases fl with
  | nx => exact ⟨F1, π1, w.mono _ _ t.le gg, s1, p1.mono fun fl π2 F2 σ2 H2 t2 s2 k => k.base t⟩
  | bk => exact p1 F1 σ1 H1 .refl s1
  | ct => exact p1 F1 σ1 H1 .refl s1
  | rt r => exact p1 F1 σ1 H1 .refl s1
theorem x_one (h1 : PS X st (tX c w' w f)) : PSs X [st] (tX c w' w f) := pss_weak (pss_one h1) fun D σ H h => h
/-- a statement that does not look at the exception -/
theorem x_any (h1 : PS X st (tS c w.blk f)) : PS X st (tX c w' w f) := ps_weak h1 fun D σ H ⟨F, π, gx, gg, s, po⟩ => ⟨F, π, gg, s, po⟩
theorem x_if (hW : w'.W = fun _ _ _ _ => False) (hc : PT X cnd (tT c w' ft)) (ha : PSs X body (tS c w.blk f)) (hb : PSs X orelse (tS c w.blk g)) : PS X (.If cnd body orelse pos) (tX c w' w (ifF ft f g)) :=
  ps_weak (ps_if hc ha hb) fun D σ H ⟨F, π, gx, gg, s, po⟩ => by
    refine ⟨F, π, gx, s, ?_⟩
    rw [hW]
    refine (PoS.split po).mono fun b π1 F1 H1 t s1 p1 => ?_
    cases b with
    | true => exact ⟨F1, π1, w.mono _ _ t.le gg, s1, PoS.mono p1 fun fl π2 F2 σ2 H2 t2 s2 k => k.base t⟩
    | false => exact ⟨F1, π1, w.mono _ _ t.le gg, s1, PoS.mono p1 fun fl π2 F2 σ2 H2 t2 s2 k => k.base t⟩
theorem x_ret (hW : w'.W = fun _ _ _ _ => False) (he : PE X e (tE c w' fe)) : PS X (.Return (some e) pos) (tX c w' w (retF fe)) := ps_weak (ps_ret he) fun D σ H ⟨F, π, gx, gg, s, po⟩ => by
  refine ⟨F, π, gx, s, ?_⟩
  rw [hW]
  unfold retF at po
  cases e0 : fe π with
  | bad => rw [e0] at po; exact po
  | exc C ps π1 => rw [e0] at po; exact fun F' H' d t s => po F' σ H' d t s
  | ok r π1 =>
    rw [e0] at po
    intro F1 H1 t s1 v hr
    cases r with
    | val p => exact po F1 σ H1 t s1 v hr
    | own o =>
      obtain ⟨a, e1, h1, h2, h3, h4⟩ := hr
      exact po F1 σ H1 t s1 v ⟨a, e1, h1, fun z => h2 z.own, h3, h4⟩
    | bor i =>
      have hr' : σ[i]? = some (some v) := hr
      simp only [Out.bind, retR] at po
      cases q : π1[i]? with
      | none => rw [q] at po; exact po.elim
      | some sl =>
        rw [q] at po
        cases sl with
        | no => exact po.elim
        | loan o => exact po.elim
        | val p =>
          obtain ⟨v', e1, h1⟩ := s1.vl i p q
          rw [hr'] at e1
          have e3 : v = v' := Option.some.inj (Option.some.inj e1)
          subst e3
          exact po F1 σ H1 t s1 v h1
        | own o =>
          obtain ⟨a, e1, h1, h2⟩ := s1.ow i _ o q rfl
          rw [hr'] at e1
          have e3 : v = .ref a := Option.some.inj (Option.some.inj e1)
          subst e3
          exact po F1 σ H1 t s1 _ ⟨a, rfl, h1, lent_own s1 q hr', h2, Fr0.back t (.inr ⟨i, _, o, q, rfl, hr'⟩)⟩
end
end PV

namespace PV
open PySem PySem.Spec L2 PyProof.Rows

/-! ### defs that are called where no text is under way -/
structure FnG (P : Program) (w : World) (K : PySem.W.Frag) (mg : Str → Option Value) (base : Heap) (k : Nat) (f : Addr) (fd : FuncData) (ps : List Str) (sp : Sp) : Prop where
  len : ∀ vs H Q E, sp vs H Q E → vs.length = ps.length
  run : ∀ (A : Around) (outer : List Env) (s : Shared) (H : Hp) (args : Args) (us : List Value) (vs : List V) (Q : VK) (E : XK), A.guards = some [] → Room k A → Env0 P w K mg base A outer s H → BindsTo s fd args (ps.zip us) → Vals vs us → sp vs H Q E →
    codeAny (model P w) A (.call (.ref f) args) (CR (L2.CX P w) outer P w H s Q E) s
theorem FnG.mono {P : Program} {w : World} {K : PySem.W.Frag} {mg : Str → Option Value} {base : Heap} {j k : Nat} {f : Addr} {fd : FuncData} {ps : List Str} {sp : Sp} (F : FnG P w K mg base j f fd ps sp) (h : j ≤ k) : FnG P w K mg base k f fd ps sp :=
  ⟨F.len, fun A outer s H args us vs Q E hg hr => F.run A outer s H args us vs Q E hg (hr.mono h)⟩
section
variable {P : Program} {w : World} {K : PySem.W.Frag} {mg : Str → Option Value} {base : Heap} {c : Ctx}
/-- a def by its body -/
theorem fnG_of {x qual : Str} {st : Stmt} {f : Addr} {fd : FuncData} {N ps : List Str} {k : Nat} {sp : Sp} (F : Fun K x qual st f fd) (S : FnScope N ps (defScope st)) (len : ∀ vs H Q E, sp vs H Q E → vs.length = ps.length)
    (hbody : ∀ (cdv : Value) (A : Around) (outer : List Env) (s : Shared) (H : Hp) (vs : List V) (Q : VK) (E : XK), A.guards = some [] → Room k (A.deeper (envOfC qual (defScope st) s.heap.objs.size f cdv)) → sp vs H Q E →
      ∃ t, PSs (cxOf (L2.CX P w) P w K mg base N qual (defScope st) f cdv A outer s H E) (defBody st) t ∧ t { nx := fun _ H' => Q .non H', rt := Q } (start N vs) H) : FnG P w K mg base (k + 1) f fd ps sp := by
  obtain ⟨oc, od, kV, doc, pm, an, cdv, ct, osl, rfl, lk, hcd⟩ := F.ex
  refine ⟨len, fun A outer s H args us vs Q E hg hr e0 hb r hsp => ?_⟩
  have inS : ∀ {b : Addr} {o : Obj}, base.get? b = some o → s.heap.get? b = some o := fun {b o} e => (e0.bs b o e).1
  have KX : K.In s.heap := e0.mod.kin.keeps fun b o e => inS e
  have hkind : ∀ y ∈ ps.zip us, (defScope st).names.lookup y.1 = some .local ∨ ((defScope st).names.lookup y.1 = some .cell ∧ ((cellsFrom (s.heap.objs.size + 1) (defScope st).names []).lookup y.1).isSome = true) := fun y hy => by
    rcases S.par y.1 (List.of_mem_zip (show (y.1, y.2) ∈ _ from hy)).1 with q | q
    · exact .inl q
    · exact .inr ⟨q, PySem.W.cellsFrom_some _ _ _ (.inl q)⟩
  refine codeAny_call_function hr.depth (KX _ _ lk) rfl S.co S.gen rfl (PySem.W.codeRec_of KX hcd) (hb _ _ _ _ (wpAny_newFunctionEnv_cells S.kind hkind fun env he s1 x => ?_))
  subst he
  refine ⟨(e0.mod.nolimit.keeps fun b o e => inS e).keeps x.toInCall.keep, codeAny_func ?_⟩
  obtain ⟨t, ht, hq⟩ := hbody cdv A outer s H vs Q E hg (hr.deeper _) hsp
  refine wpAny_mono (ht.run [] s1 (start N vs) H _ (inv_start S hr.hd e0 (len _ _ _ _ hsp) r x) hq) (fun fl s' hs => ?_) fun e s' hs => hs
  cases fl with
  | ret u =>
    obtain ⟨v, σ', H', J, rv, q⟩ := hs
    exact ⟨v, H', J.os, J.bare, J.base, J.hok, rv, q⟩
  | next =>
    obtain ⟨σ', H', J, q⟩ := hs
    exact ⟨.non, H', J.os, J.bare, J.base, J.hok, rfl, q⟩
  | brk => obtain ⟨_, _, _, q⟩ := hs; exact q.elim
  | cont => obtain ⟨_, _, _, q⟩ := hs; exact q.elim
theorem fn_okG {x qual : Str} {st : Stmt} {f : Addr} {fd : FuncData} {N ps : List Str} {k : Nat} {body : M Fl} (Fd : Fun K x qual st f fd) (S : FnScope N ps (defScope st))
    (hb : ∀ (cdv : Value) (A : Around) (outer : List Env) (s : Shared) (H : Hp) (E : XK), A.guards = some [] → Room k (A.deeper (envOfC qual (defScope st) s.heap.objs.size f cdv)) →
      PSs (cxOf (L2.CX P w) P w K mg base N qual (defScope st) f cdv A outer s H E) (defBody st) (tS c (wE E) body)) :
    FnG P w K mg base (k + 1) f fd ps (spF c ps.length (fnF (N.length - ps.length) body)) := by
  refine fnG_of Fd S (fun vs H Q E h => ?_) (fun cdv A outer s H vs Q E hg hr h => ⟨_, hb cdv A outer s H E hg hr, ?_⟩)
  · obtain ⟨F, πs, hl, _, sr, _⟩ := h
    have := sr.len
    simp at this
    omega
  · obtain ⟨F, πs, hl, hno, sr, po⟩ := h
    have hvl : vs.length = ps.length := by
      have := sr.len
      simp at this
      omega
    have hst : L2.start N vs = vs.map some ++ List.replicate (N.length - ps.length) none := by unfold L2.start; rw [hvl]
    rw [hst]
    refine ⟨F, πs ++ List.replicate (N.length - ps.length) .no, trivial, sr.ext _, ?_⟩
    unfold fnF at po
    cases e : body (πs ++ List.replicate (N.length - ps.length) .no) with
    | bad => rw [e] at po; exact po
    | exc C qs π' =>
      rw [e] at po
      intro F' σ' H' d t s' xd
      obtain ⟨h1, h2, _⟩ := back_ok hno sr t s'
      exact po F' H' d h1 h2 xd
    | ok fl π' =>
      rw [e] at po
      cases fl with
      | bk => exact po.elim
      | ct => exact po.elim
      | nx =>
        intro F' σ' H' t s'
        obtain ⟨h1, h2, _⟩ := back_ok hno sr t s'
        exact po .non F' H' h1 h2 (show Rp c F' .non .non from mk_non)
      | rt r =>
        intro F' σ' H' t s' v hr'
        obtain ⟨h1, h2, h3⟩ := back_ok hno sr t s'
        refine po v F' H' h1 h2 ?_
        cases r with
        | val p => exact hr'
        | own o =>
          obtain ⟨a, e1, q1, q2, q3, q4⟩ := hr'
          exact ⟨a, e1, q1, fun z => q2 (h3 a z), q3, q4.imp id own_ext.mp⟩
/-- no Fn from a run that only the promise of another def needs: a def's run needs no more than it says -/
theorem FnG.of {k : Nat} {f : Addr} {fd : FuncData} {ps : List Str} {sp : Sp} (F : FnOk P w K mg base (L2.CX P w) k f fd ps sp) : FnG P w K mg base k f fd ps sp :=
  ⟨F.len, fun A outer s H args us vs Q E _ => F.run A outer s H args us vs Q E⟩
end
section
variable {X : Cx} {c : Ctx} {w : Wi} {k n : Nat} {f : Addr} {fd : FuncData} {ps : List Str} {Fn : FN} {x m : Str} {p pos apos : Pos} {e o : Expr} {es : List Expr} {fa : M (List Rs)} {sp : Sp} {E : L2.St → XK} {t : TA}
theorem run_fnG {pins : List (Addr × Obj)} {σ : L2.St} {H : Hp} {s : Shared} {Q : VK} {us : List Value} {vs : List V} (G : FnG X.prog X.w X.K X.mg X.base k f fd ps sp) (hg : X.A.guards = some []) (hr : Room k X.A) (hb : Binds X.K fd ps []) (hx : PassesAt (L2.CX X.prog X.w) X σ (E σ))
    (I : L2.Inv X pins σ H s) (r : Vals vs us) (h : sp vs H Q (E σ)) : wpAny (model X.prog X.w) X.A (call (.ref f) us) (L2.EP X pins σ Q) X.xe s := by
  have b := hb s us I.kIn (by rw [List.append_nil, ← r.length]; exact G.len _ _ _ _ h)
  rw [List.append_nil] at b
  refine wpAny_call (codeAny_mono (G.run X.A X.stack s H ⟨us, []⟩ us vs Q (E σ) hg hr I.env0 b r h) fun r s' hq => ?_)
  cases r with
  | error e => exact hx pins H s e s' I hq
  | ok fl => cases fl <;> first | exact I.after hq | exact False.elim hq
theorem pe_callG (G : FnG X.prog X.w X.K X.mg X.base k f fd ps sp) (hgd : X.A.guards = some []) (hr : Room k X.A) (hg : Gl X x) (hm : X.mg x = some (.ref f)) (hk : PySem.W.keepIn X.K (.ref f) = true) (hb : Binds X.K fd ps []) (hx : ∀ σ, PassesAt (L2.CX X.prog X.w) X σ (E σ))
    (ha : PA X (e :: es) t) (hdb : (x == ("__debug__" : Str)) = false := by decide) (he : starEach (e :: es) X.env = (false, eval e X.env) :: starEach es X.env := by rfl) (hpl : (backTo pos (starEach es X.env)).any (·.1) = false := by rfl) :
    PE X (.Call (.Name x p) (e :: es) [] pos) (tCallS sp E t) :=
  ⟨fun pins s σ H Q I h => wpAny_Call_Name_kw (ld_glob I hg hm (PySem.W.callWith_K (h₀ := X.base) I.ok.mod.kin hk (thn (ha.run pos pins s σ H _ I h) fun us s1 ⟨vs, H1, I1, r, q⟩ => ⟨I1.kIn, run_fnG G hgd hr hb (hx σ) I1 r q⟩) he hpl) hdb)⟩
/-- f(e, ..) -/
theorem p_callG (G : FnG X.prog X.w X.K X.mg X.base k f fd ps (spF c n Fn)) (hgd : X.A.guards = some []) (hr : Room k X.A) (hg : Gl X x) (hm : X.mg x = some (.ref f)) (hk : PySem.W.keepIn X.K (.ref f) = true) (hb : Binds X.K fd ps []) (tk : Takes X w.W)
    (ha : PA X (e :: es) (tR c w fa)) (hlen : ∀ π rs π', fa π = .ok rs π' → rs.length = n) (hdb : (x == ("__debug__" : Str)) = false := by decide) (he : starEach (e :: es) X.env = (false, eval e X.env) :: starEach es X.env := by rfl) (hpl : (backTo pos (starEach es X.env)).any (·.1) = false := by rfl) :
    PE X (.Call (.Name x p) (e :: es) [] pos) (tE c w (callF Fn fa)) :=
  pe_weak (pe_callG G hgd hr hg hm hk hb (fun σ => passAt tk σ) ha hdb he hpl) fun σ H Q ⟨F, π, gg, s, po⟩ => by
    refine ⟨F, π, gg, s, ?_⟩
    unfold callF at po
    cases e0 : fa π with
    | bad => rw [e0] at po; exact po
    | exc C qs π1 => rw [e0] at po; exact po
    | ok rs π1 =>
      rw [e0] at po
      intro F1 H1 t s1 vs hx
      refine call_post s1 hx (hlen _ _ _ e0) (Po.from po t) fun r π2 F2 H2 v t2 kk hr2 => kk v (hr2.base t)
theorem len_nil : ∀ π rs π', nilF π = .ok rs π' → rs.length = 0 := fun π rs π' h => by cases h; rfl
theorem len_cons {f : M Rs} {g : M (List Rs)} {n : Nat} (h : ∀ π rs π', g π = .ok rs π' → rs.length = n) : ∀ π rs π', consF f g π = .ok rs π' → rs.length = n + 1 := fun π rs π' e => by
  unfold consF at e
  cases e0 : f π with
  | bad => rw [e0] at e; cases e
  | exc C qs π1 => rw [e0] at e; cases e
  | ok r π1 =>
    rw [e0] at e
    simp only [Out.bind] at e
    cases e1 : g π1 with
    | bad => rw [e1] at e; cases e
    | exc C qs π1 => rw [e1] at e; cases e
    | ok rs2 π2 =>
      rw [e1] at e
      cases e
      rw [List.length_cons, h _ _ _ e1]
end

/-! ### repr -/
def rReprD (K : PySem.W.Frag) : List V → Hp → VK → Prop := fun xs H Q => ∃ (v : V) (d : PyData), xs = [v] ∧ Dp K H v d ∧ d.showable = true ∧ d.hasDict = false ∧ d.depth ≤ 60 ∧ d.shown.length ≤ sizeLine ∧ Q (.str d.shown) H
theorem call_reprD {X : Cx} (hgd : X.A.guards = some []) (hu : X.A.units + 65 < cLine) : CallR X (.builtin "repr") (rReprD X.K) := by
  intro pins s σ H xs us Q I r h
  obtain ⟨v, d, rfl, D, hs, hn, hd, hz, q⟩ := h
  obtain ⟨u, rfl, r1⟩ := vals1 r
  obtain ⟨as, R⟩ := D.reads I _ _ _ r1
  have give : ∀ h' u tk, (∀ b o, s.heap.get? b = some o → h'.get? b = some o) → L2.EP X pins σ Q (.str d.shown u) { s with heap := h', toks := tk } := fun h' u tk k => ⟨.str d.shown, H, I.kept (t' := tk) k, ⟨_, rfl⟩, q⟩
  have keep0 : ∀ b o, s.heap.get? b = some o → s.heap.get? b = some o := fun _ _ e => e
  cases D with
  | non =>
    cases r1
    exact PySem.P.repr_of_none (by have := give s.heap s.toks (s.toks + 1) keep0; rw [PyData.shown_none] at this; exact this)
  | bl b =>
    cases r1
    exact PySem.P.repr_of_bool (by have := give s.heap s.toks (s.toks + 1) keep0; simpa only [PyData.shown] using this)
  | int i =>
    obtain ⟨t, rfl⟩ := r1
    exact PySem.P.repr_of_int (by simpa [PyData.showable] using hs) (by have := give s.heap s.toks (s.toks + 1) keep0; simpa only [PyData.shown] using this)
  | str x =>
    obtain ⟨t, rfl⟩ := r1
    exact PySem.P.repr_of_str (by have := give s.heap s.toks (s.toks + 1) keep0; simpa only [PyData.shown] using this) (by simpa only [PyData.shown] using hz)
  | lst h1 h2 =>
    cases r1
    exact repr_of_reads' R hs (PyData.noDict_hsm hn) hgd (by omega) keep0 give hz
  | tup h1 h2 =>
    cases r1
    exact repr_of_reads' R hs (PyData.noDict_hsm hn) hgd (by omega) keep0 give hz
/-- small data: ints small, texts short, few parts -/
def shw : Nat → P → Bool
  | _, .non => true
  | _, .bl _ => true
  | _, .int i => decide (i.natAbs < 2 ^ 64)
  | _, .str x => decide ((reprText x).length ≤ 1000)
  | n + 1, .tup xs => decide (xs.length ≤ 20) && xs.all (shw n)
  | n + 1, .lst xs => decide (xs.length ≤ 20) && xs.all (shw n)
  | _, _ => false
end PV

namespace PV
open PySem PySem.Spec L2 PyProof.Rows

/-! ### repr, as an operation -/
def reprP : List P → Option Rv
  | [p] => if dat 60 p = true ∧ (toD p).showable = true ∧ (toD p).hasDict = false ∧ (toD p).shown.length ≤ 1000000 then some (.val (.str (toD p).shown)) else none
  | _ => none
theorem v_repr {c : Ctx} : CalV c (rReprD c.K) reprP := by
  intro F H ps xs res Q l h e k
  have hs := sizeLine_eq
  unfold reprP at e
  split at e
  · rename_i p
    split at e
    · rename_i hc
      cases e
      obtain ⟨v, t, rfl, h1, h2⟩ := h
      have ht : t = [] := h2
      subst ht
      exact ⟨v, toD p, rfl, dp_of 60 p v hc.1 (h1.rpH l), hc.2.1, hc.2.2.1, (dat_lay 60 p hc.1).2, by omega, give l k mk_str⟩
    · cases e
  · cases e

/-! ### the law's own head -/
section
open PySem.W
variable {P : Program} {w : World} {K : Frag} {mg mb : Str → Option Value} {k : Nat} {fa a : Addr} {fd : FuncData} {x : Str} {sp : Sp} {s₁ : Shared} {vs : List Value} {ns : List Int}
/-- from a heap H of which no more is tracked than the script -/
theorem lawG_at {H : Hp} (KX : K.In s₁.heap) (hns : s₁.heap.Ns mainGlobals mg) (hb : s₁.heap.Ns builtinsNs mb) (hbb : ∀ x : Str, x ≠ "__name__" → mb x = bootBuiltins x) (hlim : s₁.heap.NoLimit) (hg : s₁.gens = #[])
    (ha : s₁.heap.get? a = some { cls := .type "list", data := .seq vs.toArray }) (hr : Room k callerA)
    (hF : ∀ base : Heap, K.In base → base.Ns mainGlobals mg → FnG P w K mg base k fa fd [x] sp) (hbind : ∀ (s : Shared) (u : Value), BindsTo s fd ⟨[u], []⟩ [(x, u)])
    (hO : Only H) (hok : HOk P w H s₁.heap) (hA : ∀ b, H b ≠ none → b = a) (hK : H a ≠ none → K.lookup a = none) (hsp : sp [.ref a] H (fun v _ => v = .bl true) fun _ _ _ => False) :
    codeAny (model P w) callerA (.call (.ref fa) ⟨[.ref a], []⟩) (fun r s' => r = .ok (.ret (.bool true)) ∧ OldK s₁.heap s'.heap ∧ s'.os = s₁.os ∧ AllBare s'.gens) s₁ := by
  have un : ∀ {b : Addr} {o : Obj}, s₁.heap.get? b = some o → (b = a → o ≠ { cls := .type "list", data := .seq vs.toArray } ∨ H a = none) → H b = none := fun {b o} e hne => by
    cases q : H b with
    | none => rfl
    | some u =>
      obtain rfl := hA b (by rw [q]; exact fun z => nomatch z)
      rcases hne rfl with z | z
      · rw [ha] at e
        exact absurd (Option.some.inj e).symm z
      · rw [q] at z; cases z
  have nsK : ∀ {b : Addr} {m : Str → Option Value}, s₁.heap.Ns b m → (hidT s₁.heap H).Ns b m := fun {b m} ⟨o, es, ep, e, d, r⟩ => ⟨o, es, ep, hidT_get e (un e fun _ => .inl fun z => by subst z; cases d), d, r⟩
  have kb : K.In (hidT s₁.heap H) := fun b o e => hidT_get (KX b o e) (un (KX b o e) fun hba => by
    subst hba
    cases q : H b with
    | none => exact .inr rfl
    | some u => rw [hK (by rw [q]; exact fun z => nomatch z)] at e; cases e)
  have hM : Mod K mg (hidT s₁.heap H) := ⟨kb, nsK hns, ⟨mb, nsK hb, hbb⟩, let ⟨mc, h1, h2⟩ := hlim; ⟨mc, nsK h1, h2⟩⟩
  have e0 : Env0 P w K mg (hidT s₁.heap H) callerA [] s₁ H :=
    ⟨rfl, hM, fun b o e => of_hidT e, Nat.le_of_eq (hidT_size _ _), trivial, (fun b z => absurd (show b ∈ ([] : List Addr) from z) (by simp)), hok, .of_eq hg⟩
  refine codeAny_mono ((hF _ kb (nsK hns)).run callerA [] s₁ H ⟨[.ref a], []⟩ [.ref a] [.ref a] _ _ rfl hr e0 (hbind s₁ (.ref a)) (.cons rfl .nil) hsp) fun r s' h => ?_
  cases r with
  | error e =>
    obtain ⟨_, _, _, _, _, _, _, _, _, _, _, _, z⟩ := h
    exact z.elim
  | ok fl =>
    cases fl with
    | next => exact False.elim h
    | brk => exact False.elim h
    | cont => exact False.elim h
    | ret u =>
      obtain ⟨v, H', os, bare, un', hok', r', q⟩ := h
      have q' : v = .bl true := q
      subst q'
      obtain rfl : u = Value.bool true := r'
      refine ⟨rfl, OldK.of_keep fun b o e => ?_, os, bare⟩
      rcases hO b with z | ⟨ob, xs, z⟩
      · exact un'.keep b o e z (fun y => absurd (show b ∈ ([] : List Addr) from y) (by simp)) (by simp)
      · obtain ⟨e1, _⟩ := hok b _ z
        obtain ⟨e2, _⟩ := hok' b _ (un'.frzs b ob _ z)
        rw [e] at e1
        cases e1
        exact e2
theorem lawG (KX : K.In s₁.heap) (hns : s₁.heap.Ns mainGlobals mg) (hb : s₁.heap.Ns builtinsNs mb) (hbb : ∀ x : Str, x ≠ "__name__" → mb x = bootBuiltins x) (hlim : s₁.heap.NoLimit) (hg : s₁.gens = #[])
    (ha : s₁.heap.get? a = some { cls := .type "list", data := .seq vs.toArray }) (hi : IntsAre vs ns) (hl : ns.length ≤ sizeLine) (hr : Room k callerA)
    (hF : ∀ base : Heap, K.In base → base.Ns mainGlobals mg → FnG P w K mg base k fa fd [x] sp) (hbind : ∀ (s : Shared) (u : Value), BindsTo s fd ⟨[u], []⟩ [(x, u)])
    (hsp : ∀ H : Hp, Only H → SqL K H a (ns.map V.int) → sp [.ref a] H (fun v _ => v = .bl true) fun _ _ _ => False) :
    codeAny (model P w) callerA (.call (.ref fa) ⟨[.ref a], []⟩) (fun r s' => r = .ok (.ret (.bool true)) ∧ OldK s₁.heap s'.heap ∧ s'.os = s₁.os ∧ AllBare s'.gens) s₁ := by
  have rv := vals_ints hi
  have lenV := hi.length
  cases hk : K.lookup a with
  | some o =>
    have e := KX a o hk
    rw [ha] at e
    cases e
    refine lawG_at (H := fun _ => none) KX hns hb hbb hlim hg ha hr hF hbind (fun _ => .inl rfl) (fun b u z => by cases (show (none : Option HO) = some u from z)) (fun b z => absurd rfl z) (fun z => absurd rfl z) (hsp _ (fun _ => .inl rfl) ?_)
    exact .inr ⟨_, vs.toArray, _, hk, rfl, rfl, rfl, by rw [List.size_toArray, lenV]; exact hl, by simpa using rv⟩
  | none =>
    have hO : Only (fun b => if b = a then some (.frz { cls := .type "list", data := .seq vs.toArray } (.lst (ns.map V.int))) else none) := fun b => by
      by_cases z : b = a
      · exact .inr ⟨_, _, if_pos z⟩
      · exact .inl (if_neg z)
    refine lawG_at KX hns hb hbb hlim hg ha hr hF hbind hO (fun b u z => ?_) (fun b z => ?_) (fun _ => hk) (hsp _ hO (.inl (.inr ⟨{ cls := .type "list", data := .seq vs.toArray }, if_pos rfl⟩)))
    · by_cases y : b = a
      · have z' := (if_pos y).symm.trans z
        cases z'
        subst y
        exact ⟨ha, by rw [List.length_map]; exact hl, vs, _, rv, ha⟩
      · have z' := (if_neg y).symm.trans z
        cases z'
    · by_cases y : b = a
      · exact y
      · exact absurd (if_neg y) z
theorem walk_ofG {l : OpenLaw} {n : Nat} {q : Program} {loose : List Str} {XP : (Str → Option Value) → Heap → Prop} {YP : World → Heap → Prop} {d : DefRec} {K : Params → Frag} {sp : World → Sp}
    (hn : l.most = some n) (hn2 : n ≤ sizeLine) (hdf : d.params.defaults = []) (hr : Room k callerA) (hY : ∀ (w : World) (h : Heap), YP w h → (K w.params).In h)
    (F : ∀ (w : World) (mg : Str → Option Value) (fa : Addr) (h : Heap), (K w.params).In h → h.Ns mainGlobals mg → mg d.name = some (.ref fa) →
      ∃ fd : FuncData, (∀ (s : Shared) (u : Value), BindsTo s fd ⟨[u], []⟩ [(x, u)]) ∧ ∀ base : Heap, (K w.params).In base → base.Ns mainGlobals mg → FnG l.prog w (K w.params) mg base k fa fd [x] (sp w))
    (hsp : ∀ (w : World) (H : Hp) (a : Addr) (ns : List Int), ns.length ≤ n → Only H → SqL (K w.params) H a (ns.map V.int) → sp w [.ref a] H (fun v _ => v = .bl true) fun _ _ _ => False) :
    WalkO q loose XP YP l.row.toRowW d [] (fun f vs => PySem.call f vs) := by
  refine Att.attach_call hn hdf fun w s₀ s₁ mg mb fa o pm cd doc a vs ns G Y ho hd hcd hmg hobj hints hlen hg => ?_
  obtain ⟨fd, hb, hF⟩ := F w mg fa _ (hY w _ Y) G.T.g hmg
  exact lawG (hY w _ Y) G.T.g G.T.b G.T.builtins G.T.nolimit hg hobj hints (Nat.le_trans hlen hn2) hr hF hb fun H hO hS => hsp w H a ns hlen hO hS
end
end PV

namespace PV
open PySem L2 PyProof.Rows

/-! ### a comprehension over a slot's own list -/
open Classical in
/-- no exception may leave it; the list stays as it is -/
noncomputable def lcLoopO (i : Nat) (ps0 : List P) (t : TgF) (tt : M Bool) (fe : M P) (vs : List Nat) (π0 : En) : List P → List P → En → Out Rs
  | [], acc, π => if getL π i = some ps0 then .ok (.own (.lst acc)) (restE π0 π vs) else .bad
  | p :: ps, acc, π => if getL π i = some ps0 then (match t p π with
    | none => .bad
    | some π1 => match tt π1 with
      | .ok false π2 => if chk vs π2 = true then lcLoopO i ps0 t tt fe vs π0 ps acc (wipeE π2 vs) else .bad
      | .ok true π2 => (match fe π2 with
        | .ok q π3 => if chk vs π3 = true then lcLoopO i ps0 t tt fe vs π0 ps (acc ++ [q]) (wipeE π3 vs) else .bad
        | _ => .bad)
      | _ => .bad) else .bad
noncomputable def lcOF (i : Nat) (t : TgF) (tt : M Bool) (fe : M P) (vs : List Nat) : M Rs := fun π => match getL π i with
  | some ps => if chk vs π = true ∧ i ∉ vs then lcLoopO i ps t tt fe vs π ps [] (wipeE π vs) else .bad
  | none => .bad
def LcInvO (c : Ctx) (w : Ws) (i0 : Nat) (ps0 : List P) (t : TgF) (tt : M Bool) (fe : M P) (vs : List Nat) (F1 : Hp) (π1 : En) (σ : L2.St) (H1 : Hp) (ps : List P) (K : Rs → En → Hp → Hp → Prop) (D : Addr) (i : Nat) (H' : Hp) : Prop :=
  ∃ F' π' acc va, Le F1 F' ∧ w.g F' ∧ SR c F' π' (wipe σ vs) H' ∧ H' D = some (.lst va) ∧ Rps c F' acc va ∧ acc.length ≤ i ∧ F' D = none ∧ ¬ Own π' (wipe σ vs) D ∧ Tr F1 (wipeE π1 vs) (wipe σ vs) H1 F' π' (wipe σ vs) H' ∧
    Po c w.W F1 π1 σ H1 (lcLoopO i0 ps0 t tt fe vs π1 (ps.drop i) acc π') K
section
variable {X : Cx} {c : Ctx} {w : Ws} {elt tg : Expr} {x : Str} {xp : Pos} {ifs : List Expr} {scope : Scope} {own : List (Str × Nat)} {pos : Pos} {i0 : Nat} {t : TgF} {ft : M Bool} {fe : M P} {sl : List Nat}
theorem wk_own {F : Hp} {a : Addr} {vs : List V} {ps : List P} {G : Hp} (hG : G a = some (.lst vs)) (r : Rps c F ps vs) {K : PySem.W.Frag} :
    (Itl K a).stop ps.length G ∧ (∀ i, i < ps.length → (Itl K a).go i G) ∧ ∀ i p x G', ps[i]? = some p → (Itl K a).yld i G x G' → G' = G ∧ Rp c F p x :=
  ⟨⟨vs, .of hG, by rw [rps_len r]; exact Nat.le_refl _⟩, fun i hi => ⟨vs, vs[i]'(by rw [← rps_len r]; exact hi), .of hG, List.getElem?_eq_getElem _⟩, fun i p x G' e y => by
    obtain ⟨rfl, y⟩ := y
    exact ⟨rfl, get_rp r e (y vs (.of hG))⟩⟩
theorem lcO_weak (hsl : ∀ j ∈ sl, j ∈ own.map (·.2)) {K : PySem.W.Frag} {tl : TE} (htl : ∀ σ H (a : Addr), σ[i0]? = some (some (.ref a)) → ∀ Q : VK, Q (.ref a) H → tl σ H Q) : ∀ σ H Q, tE c w (lcOF i0 t ft fe (own.map (·.2))) σ H Q →
    tLc (iTwo K tl) (tG c w.blk sl t) (tT c w.blk ft) (tV c w.blk fe) (own.map (·.2)) σ H Q := fun σ H Q ⟨F, π, gg, s, po⟩ => by
  generalize own.map (·.2) = vs at *
  unfold lcOF at po
  cases e0 : getL π i0 with
  | none => rw [e0] at po; exact po.elim
  | some ps =>
    simp only [e0] at po
    by_cases hcc : chk vs π = true ∧ i0 ∉ vs
    case neg => rw [if_neg hcc] at po; exact po.elim
    rw [if_pos hcc] at po
    obtain ⟨hc, hi0⟩ := hcc
    obtain ⟨a, va0, hσ, hHa, ra0⟩ := s.getL e0
    refine htl σ H a hσ _ (.inl ⟨a, va0, rfl, .of hHa, fun hz => fun D hD => ?_⟩)
    have gD : Gr F H F (L2.upd H D (.lst [])) := gr_lst s.le hD
    obtain ⟨sw, tw⟩ := wipe_ok s vs fun v hv => chk_at hc hv
    have sgi : (wipe σ vs)[i0]? = some (some (.ref a)) := by rw [wipe_get, if_neg fun h => hi0 h.1]; exact hσ
    refine ⟨fun i m H' => m = ps.length - i ∧ i ≤ ps.length ∧ LcInvO c w i0 ps t ft fe vs F π σ H ps (fun r π' F' H' => ∀ v, RR c π H F' π' σ H' r v → Q v H') D i H',
      ⟨_, rfl, Nat.zero_le _, F, wipeE π vs, [], [], Le.refl _, gg, gD.sr sw, upd_same, rps_nil, Nat.le_refl _, s.le.gone hD, fun z => ?_, gD.tr, po⟩, ?_⟩
    · obtain ⟨u, hu⟩ := own_some sw z
      rw [hD] at hu; cases hu
    rintro i m H' ⟨rfl, hi, F', π', acc, va, l1, g', s', hDa, ra, hal, hFD, hnD, t', po'⟩
    have hstay : getL π' i0 = some ps := by
      by_cases z : getL π' i0 = some ps
      · exact z
      · cases q : ps.drop i with
        | nil => rw [q] at po'; unfold lcLoopO at po'; rw [if_neg z] at po'; exact po'.elim
        | cons p l => rw [q] at po'; unfold lcLoopO at po'; rw [if_neg z] at po'; exact po'.elim
    obtain ⟨a', vb, hσ', hHb, rb⟩ := s'.getL hstay
    rw [sgi] at hσ'
    have ea : a = a' := by injection Option.some.inj (Option.some.inj hσ')
    subst ea
    obtain ⟨wstop, wgo, wyld⟩ := wk_own (K := K) hHb rb
    by_cases hlt : i < ps.length
    · refine .inr ⟨wgo i hlt, fun H2 => (ps.length - (i + 1)) = ps.length - (i + 1) ∧ i + 1 ≤ ps.length ∧ LcInvO c w i0 ps t ft fe vs F π σ H ps (fun r π' F' H' => ∀ v, RR c π H F' π' σ H' r v → Q v H') D (i + 1) H2,
        fun H2 q => ⟨ps.length - (i + 1), by omega, q⟩, fun x H2 y => ?_⟩
      obtain ⟨e2, rx⟩ := wyld i ps[i] x H2 (List.getElem?_eq_getElem hlt) y
      subst e2
      rw [List.drop_eq_getElem_cons hlt] at po'
      refine ⟨F', π', ps[i], g', s', rx, ?_⟩
      unfold lcLoopO at po'
      rw [if_pos hstay] at po'
      cases e1 : t ps[i] π' with
      | none => simp only [e1] at po'; exact po'.elim
      | some π2 =>
        simp only [e1] at po'
        intro σ3 s3 t3 k3 n3
        have hw : wipe σ3 vs = wipe σ vs := wipe_same (fun j z => k3 j fun q => z (hsl j q)) (by rw [n3, wipe_length])
        refine ⟨hw, F', π2, g', s3, ?_⟩
        have fin : ∀ {π4 : En} {F4 H4 : Hp}, chk vs π4 = true → Tr F' π2 σ3 H2 F4 π4 σ3 H4 → SR c F4 π4 σ3 H4 → SR c F4 (wipeE π4 vs) (wipe σ vs) H4 ∧ Tr F (wipeE π vs) (wipe σ vs) H F4 (wipeE π4 vs) (wipe σ vs) H4 ∧ H4 D = some (.lst va) ∧ F4 D = none ∧ ¬ Own (wipeE π4 vs) (wipe σ vs) D := fun {π4 F4 H4} hc4 t4 s4 => by
          obtain ⟨s6, t6⟩ := wipe_ok s4 vs fun v hv => chk_at hc4 hv
          have tl := t6 _ _ _ _ (t3.trans t4)
          rw [hw] at s6 tl
          refine ⟨s6, t'.trans tl, tl.keep D _ hDa hnD, ?_, fun z => ?_⟩
          · cases q : F4 D with
            | none => rfl
            | some x =>
              rcases tl.new D (by rw [q]; exact fun z => nomatch z) with z | z | z
              · exact absurd hFD z
              · rw [hDa] at z; cases z
              · exact absurd z hnD
          · rcases tl.own D z with q | q
            · rw [hDa] at q; cases q
            · exact hnD q
        cases e2 : ft π2 with
        | bad => simp only [e2] at po'; exact po'.elim
        | exc C qs π4 => simp only [e2] at po'; exact po'.elim
        | ok b π4 =>
          intro F4 H4 t4 s4
          have l4 : Le F F4 := l1.trans t4.le
          have g4 := w.mono _ _ t4.le g'
          cases b with
          | false =>
            simp only [e2] at po'
            by_cases hc4 : chk vs π4 = true
            case neg => rw [if_neg hc4] at po'; exact po'.elim
            rw [if_pos hc4] at po'
            obtain ⟨s6, tl, d1, d2, d3⟩ := fin hc4 t4 s4
            refine iteF ?_
            exact ⟨rfl, hlt, F4, _, acc, va, l4, g4, s6, d1, Rps.mono t4.le _ _ ra, by omega, d2, d3, tl, po'⟩
          | true =>
            simp only [e2] at po'
            refine iteT ?_
            refine ⟨F4, π4, g4, s4, ?_⟩
            cases e3 : fe π4 with
            | bad => simp only [e3] at po'; exact po'.elim
            | exc C qs π5 => simp only [e3] at po'; exact po'.elim
            | ok q π5 =>
              simp only [e3] at po'
              by_cases hc5 : chk vs π5 = true
              case neg => rw [if_neg hc5] at po'; exact po'.elim
              rw [if_pos hc5] at po'
              intro F5 H5 t5 s5 y hy
              obtain ⟨s6, tl, d1, d2, d3⟩ := fin hc5 (t4.trans t5) s5
              have hva : va.length = acc.length := (rps_len ra).symm
              have hpz : ps.length ≤ sizeLine := by rw [rps_len ra0]; exact hz
              refine ⟨va, d1, by omega, rfl, hlt, F5, _, acc ++ [q], va ++ [y], l4.trans t5.le, w.mono _ _ t5.le g4, s6.other d2 d3, upd_same, rps_append (Rps.mono (t4.le.trans t5.le) _ _ ra) (rps_cons hy rps_nil), by simp; omega, d2, d3, tl.other hD, po'⟩
    · have e : i = ps.length := by omega
      subst e
      rw [List.drop_length] at po'
      unfold lcLoopO at po'
      rw [if_pos hstay] at po'
      obtain ⟨s5, t5, ow5⟩ := rest_ok s hc s' t'
      exact .inl ⟨wstop, po' F' H' t5 s5 _ ⟨D, rfl, hFD, fun z => hnD (ow5 D z), ⟨va, hDa, ra⟩, .inl hD⟩⟩
theorem htl_name {pos : Pos} : ∀ (σ : L2.St) (H : Hp) (a : Addr), σ[i0]? = some (some (.ref a)) → ∀ Q : VK, Q (.ref a) H → tVar i0 σ H Q := fun σ H a h Q q => ⟨.ref a, h, q⟩
theorem p_lcO (hsl : ∀ j ∈ sl, j ∈ own.map (·.2)) (hc : X.calm = true) (hN : X.N.Nodup) (hi0 : X.N[i0]? = some x) (hv : Vis X.env.scope x) (ok : BlkOk X.N X.env.scope scope own)
    (hg : ∀ (s : Shared) (H : Hp) (C : Addr) (cl : List (Str × Addr)) (fp : List Addr), PG (X.blk s H scope (compEnvC scope cl C X.env) fp) tg (tG c w.blk sl t)) (ht : ∀ (s : Shared) (H : Hp) (C : Addr) (cl : List (Str × Addr)) (fp : List Addr), PTs (X.blk s H scope (compEnvC scope cl C X.env) fp) ifs (tT c w.blk ft))
    (he : ∀ (s : Shared) (H : Hp) (C : Addr) (cl : List (Str × Addr)) (fp : List Addr), PE (X.blk s H scope (compEnvC scope cl C X.env) fp) elt (tV c w.blk fe)) (hs : ∀ y, foldedSetIterable (.Name x xp) X.env y = pure y := by intro _; rfl)
    (hd : (x == ("__debug__" : Str)) = false := by decide) (hcd : (x == ("__classdict__" : Str)) = false := by decide) :
    PE X (.ListComp elt [⟨tg, .Name x xp, ifs, 0⟩] scope pos) (tE c w (lcOF i0 t ft fe (own.map (·.2)))) :=
  pe_weak (pe_lc hc hN (pi_two (pe_var (i := i0) hi0 hv hd hcd)) ok hg ht he hs) (lcO_weak hsl (fun σ H a h Q q => ⟨.ref a, h, q⟩))
end
end PV

namespace PV
open PySem PySem.Spec L2 PyProof.Rows

/-! ### short forms -/
theorem hu64 {k : Nat} {A : Around} (r : Room k A) : A.units + 64 < cLine := by have := r.un; omega
theorem hu65 {k : Nat} {A : Around} (r : Room k A) : A.units + 65 < cLine := by have := r.un; omega
/-- the def x of n parameters computes Fn -/
structure Ca (P : Program) (w : World) (K : PySem.W.Frag) (mg : Str → Option Value) (base : Heap) (c : Ctx) (k : Nat) (x : Str) (n : Nat) (Fn : FN) : Prop where
  ex : ∃ (f : Addr) (fd : FuncData) (ps : List Str), FnG P w K mg base k f fd ps (spF c n Fn) ∧ mg x = some (.ref f) ∧ PySem.W.keepIn K (.ref f) = true ∧ Binds K fd ps []
/-- where the def x stands -/
structure At (K : PySem.W.Frag) (mg : Str → Option Value) (x : Str) (st : Stmt) (ps : List Str) : Prop where
  ex : ∃ (f : Addr) (fd : FuncData), Fun K x x st f fd ∧ mg x = some (.ref f) ∧ Binds K fd ps []
theorem ca_of {P : Program} {w : World} {K : PySem.W.Frag} {mg : Str → Option Value} {base : Heap} {c : Ctx} {k : Nat} {x : Str} {st : Stmt} {N ps : List Str} {body : M Fl} {m n : Nat} (D : At K mg x st ps) (S : FnScope N ps (defScope st)) (hn : ps.length = n) (hm : N.length - ps.length = m)
    (hb : ∀ (f : Addr) (cdv : Value) (A : Around) (outer : List Env) (s : Shared) (H : Hp) (E : XK), A.guards = some [] → Room k (A.deeper (envOfC x (defScope st) s.heap.objs.size f cdv)) →
      PSs (cxOf (L2.CX P w) P w K mg base N x (defScope st) f cdv A outer s H E) (defBody st) (tS c (wE E) body)) : Ca P w K mg base c (k + 1) x n (fnF m body) := by
  subst hn hm
  obtain ⟨f, fd, F, hm, hb2⟩ := D.ex
  exact ⟨f, fd, ps, fn_okG F S fun cdv A outer s H E hg hr => hb f cdv A outer s H E hg hr, hm, F.kp, hb2⟩
theorem Ca.mono {P : Program} {w : World} {K : PySem.W.Frag} {mg : Str → Option Value} {base : Heap} {c : Ctx} {j k : Nat} {x : Str} {n : Nat} {Fn : FN} (C : Ca P w K mg base c j x n Fn) (h : j ≤ k) : Ca P w K mg base c k x n Fn := by
  obtain ⟨f, fd, ps, G, r⟩ := C.ex
  exact ⟨f, fd, ps, G.mono h, r⟩
section
variable {X : Cx} {c : Ctx} {w : Wi} {k j n : Nat} {Fn : FN} {x : Str} {p pos : Pos} {e : Expr} {es : List Expr} {fa : M (List Rs)} {id T : String} {r : List V → Hp → VK → Prop} {o : List P → Option Rv}
theorem p_ca (C : Ca X.prog X.w X.K X.mg X.base c j x n Fn) (hj : j ≤ k) (hgd : X.A.guards = some []) (hr : Room k X.A) (tk : Takes X w.W) (hg : Gl X x)
    (ha : PA X (e :: es) (tR c w fa)) (hlen : ∀ π rs π', fa π = .ok rs π' → rs.length = n) (hdb : (x == ("__debug__" : Str)) = false := by decide) (he : starEach (e :: es) X.env = (false, eval e X.env) :: starEach es X.env := by rfl) (hpl : (backTo pos (starEach es X.env)).any (·.1) = false := by rfl) :
    PE X (.Call (.Name x p) (e :: es) [] pos) (tE c w (callF Fn fa)) := by
  obtain ⟨f, fd, ps, G, hm, hk, hb⟩ := C.ex
  exact p_callG G hgd (hr.mono hj) hg hm hk hb tk ha hlen hdb he hpl
theorem p_blt (hop : CallR X (.builtin id) r) (hv : CalV c r o) (hg : Gl X x) (hm : X.mg x = none) (hb : bootBuiltins x = some (.builtin id)) (ha : PA X (e :: es) (tR c w fa)) (hn : x ≠ "__name__" := by decide) (hdb : (x == ("__debug__" : Str)) = false := by decide)
    (he : starEach (e :: es) X.env = (false, eval e X.env) :: starEach es X.env := by rfl) (hpl : (backTo pos (starEach es X.env)).any (·.1) = false := by rfl) : PE X (.Call (.Name x p) (e :: es) [] pos) (tE c w (calF o fa)) :=
  pe_weak (pe_callB hop hg hm hb ha hn hdb he hpl) (cal_weak hv)
theorem p_bty (hop : CallR X (.type T) r) (hv : CalV c r o) (hg : Gl X x) (hm : X.mg x = none) (hb : bootBuiltins x = some (.type T)) (ha : PA X (e :: es) (tR c w fa)) (hn : x ≠ "__name__" := by decide) (hdb : (x == ("__debug__" : Str)) = false := by decide)
    (he : starEach (e :: es) X.env = (false, eval e X.env) :: starEach es X.env := by rfl) (hpl : (backTo pos (starEach es X.env)).any (·.1) = false := by rfl) : PE X (.Call (.Name x p) (e :: es) [] pos) (tE c w (calF o fa)) :=
  pe_weak (pe_callTy hop hg hm hb ha hn hdb he hpl) (cal_weak hv)
theorem p_ty {T : String} (hg : Gl X x) (hm : X.mg x = none) (hb : bootBuiltins x = some (.type T)) (hn : x ≠ "__name__" := by decide) (hdb : (x == ("__debug__" : Str)) = false := by decide) : PE X (.Name x pos) (tE c w (cF (.ty T))) :=
  pe_weak (pe_bltn (v := .ty T) hg hm hb rfl hn hdb) (tC_of fun _ => mk_ty)
end
theorem bb_len : bootBuiltins "len" = some (.builtin "len") := by decide +kernel
theorem bb_abs : bootBuiltins "abs" = some (.builtin "abs") := by decide +kernel
theorem bb_sum : bootBuiltins "sum" = some (.builtin "sum") := by decide +kernel
theorem bb_max : bootBuiltins "max" = some (.builtin "max") := by decide +kernel
theorem bb_min : bootBuiltins "min" = some (.builtin "min") := by decide +kernel
theorem bb_all : bootBuiltins "all" = some (.builtin "all") := by decide +kernel
theorem bb_any : bootBuiltins "any" = some (.builtin "any") := by decide +kernel
theorem bb_repr : bootBuiltins "repr" = some (.builtin "repr") := by decide +kernel
theorem bb_isinstance : bootBuiltins "isinstance" = some (.builtin "isinstance") := by decide +kernel
theorem bb_int : bootBuiltins "int" = some (.type "int") := by decide +kernel
theorem bb_bool : bootBuiltins "bool" = some (.type "bool") := by decide +kernel
theorem bb_str : bootBuiltins "str" = some (.type "str") := by decide +kernel
theorem bb_list : bootBuiltins "list" = some (.type "list") := by decide +kernel
theorem bb_tuple : bootBuiltins "tuple" = some (.type "tuple") := by decide +kernel
end PV
namespace PV
open PySem PySem.Spec L2 PyProof.Rows
theorem ca_bad {P : Program} {w : World} {K : PySem.W.Frag} {mg : Str → Option Value} {base : Heap} {c : Ctx} {k : Nat} {x : Str} {st : Stmt} {ps : List Str} (D : At K mg x st ps) : Ca P w K mg base c k x ps.length (fun _ => .bad) := by
  obtain ⟨f, fd, F, hm, hb2⟩ := D.ex
  refine ⟨f, fd, ps, ⟨fun vs H Q E ⟨F, πs, hl, _, sr, _⟩ => ?_, fun A outer s H args us vs Q E _ _ _ _ _ ⟨F, πs, _, _, _, po⟩ => po.elim⟩, hm, F.kp, hb2⟩
  have := sr.len
  simp at this
  omega
theorem lay1 {f : Str} : ∀ vs : List V, (([f]).zip vs).reverse.lookup f = vs[0]?
  | [] => rfl
  | v :: vs => by simp [List.lookup]
theorem lay2_0 {f g : Str} (h : (f == g) = false) : ∀ vs : List V, (([f, g]).zip vs).reverse.lookup f = vs[0]?
  | [] => rfl
  | [v] => by simp [List.lookup]
  | v :: w :: vs => by simp [List.lookup, h]
theorem lay2_1 {f g : Str} (h : (g == f) = false) : ∀ vs : List V, (([f, g]).zip vs).reverse.lookup g = vs[1]?
  | [] => rfl
  | [v] => by simp [List.lookup, h]
  | v :: w :: vs => by simp [List.lookup]
theorem t_w {X : Cx} {e : Expr} {t : TT} (h : PW X e t) : PT X e t := h.pt
end PV
namespace PV
open PySem PySem.Spec L2 PyProof.Rows
theorem fnG_by {P : Program} {w : World} {K : PySem.W.Frag} {mg : Str → Option Value} {base : Heap} {c : Ctx} {k : Nat} {x : Str} {f : Addr} {fd : FuncData} {st : Stmt} {N ps : List Str} {body : M Fl} {m n : Nat} (Fd : Fun K x x st f fd) (S : FnScope N ps (defScope st)) (hn : ps.length = n) (hm : N.length - ps.length = m)
    (hb : ∀ (cdv : Value) (A : Around) (outer : List Env) (s : Shared) (H : Hp) (E : XK), A.guards = some [] → Room k (A.deeper (envOfC x (defScope st) s.heap.objs.size f cdv)) →
      PSs (cxOf (L2.CX P w) P w K mg base N x (defScope st) f cdv A outer s H E) (defBody st) (tS c (wE E) body)) : FnG P w K mg base (k + 1) f fd ps (spF c n (fnF m body)) := by
  subst hn hm
  exact fn_okG Fd S hb
/-- law's promise: a list of at most 63 ints is handed in, True comes out -/
def spLaw (K : PySem.W.Frag) : Sp := fun vs H Q _ => ∃ (a : Addr) (ns : List Int), vs = [.ref a] ∧ SqL K H a (ns.map V.int) ∧ ns.length ≤ 63 ∧ ∀ H', Q (.bl true) H'
theorem law_by {P : Program} {w : World} {K : PySem.W.Frag} {mg : Str → Option Value} {base : Heap} {c : Ctx} {k : Nat} {f : Addr} {fd : FuncData} {ps : List Str} {Fn : FN} (hc : c.K = K) (G : FnG P w K mg base k f fd ps (spF c 1 Fn))
    (hp : ∀ ns : List Int, ns.length ≤ 63 → ∃ πs', Fn [.val (.scr ns)] = .ok (.val (.bl true)) πs') : FnG P w K mg base k f fd ps (spLaw K) := by
  have conv : ∀ vs H Q E, spLaw K vs H Q E → spF c 1 Fn vs H Q E := fun vs H Q E ⟨a, ns, e, hS, hl, q⟩ => by
    subst e hc
    obtain ⟨πs', he⟩ := hp ns hl
    refine ⟨H, [.val (.scr ns)], rfl, fun i o z => ?_, ⟨Le.refl H, rfl, fun i p z => ?_, fun i s o z z2 => ?_, fun i j s s' o o' b z z2 _ _ _ _ => ?_⟩, ?_⟩
    · cases i <;> simp at z
    · cases i with
      | zero => simp at z; subst z; exact ⟨_, rfl, mk_scr hS⟩
      | succ i => simp at z
    · cases i with
      | zero => simp at z; subst z; cases z2
      | succ i => simp at z
    · cases i with
      | zero => simp at z; subst z; cases z2
      | succ i => simp at z
    · rw [he]
      intro v F' H' t s' hr
      rw [rp_bl (show Rp c F' (.bl true) v from hr)]
      exact q H'
  exact ⟨fun vs H Q E h => G.len vs H Q E (conv vs H Q E h), fun A outer s H args us vs Q E hg hr e0 hb r h => G.run A outer s H args us vs Q E hg hr e0 hb r (conv vs H Q E h)⟩
/-- what stands of a def -/
theorem at_mk {K : PySem.W.Frag} {mg : Str → Option Value} {h : Heap} {x : Str} {st : Stmt} {ps : List Str} {f : Addr} {od an : Option Addr} {sl : Array (Option Value)} {oc kV dc pm cd ct : Value} (X : K.In h) (G : h.Ns mainGlobals mg)
    (a : PySem.W.nsIn K mainGlobals x = some (some (.ref f))) (l : K.lookup f = some ⟨oc, od, .func (PySem.W.fnOf x x (defArgs st) (defBody st) (defScope st) .none kV dc pm an cd ct), sl⟩) (c : PySem.W.codeIn K cd x = true) (k : PySem.W.keepIn K (.ref f) = true)
    (hb : ∀ (kV doc pm : Value) (an : Option Addr) (cdv ct : Value) (us : List Value), us.length = ps.length → bindArgs (PySem.W.fnOf x x (defArgs st) (defBody st) (defScope st) .none kV doc pm an cdv ct) ⟨us, []⟩ = pure (ps.zip us)) : At K mg x st ps :=
  ⟨f, _, fun_mk (st := st) l c k, PySem.W.mg_of X G a, (fun_mk (st := st) l c k).binds hb⟩
end PV

namespace PV
open PySem PySem.Spec L2 PyProof.Rows
theorem sup_mk {K : PySem.W.Frag} {C B : Addr} {nm : Str} {cd cdB : ClassData} {c0 : Value} {d0 : Option Addr} {s0 : Array (Option Value)} {v : Value} (h1 : PySem.W.clsIn K C = some cd) (h2 : K.lookup B = some ⟨c0, d0, .cls cdB, s0⟩)
    (h3 : (cd.mro.dropWhile (· != .ref C)).drop 1 = cdB.mro) (h4 : PySem.W.findIn K (.ref B) nm = some (some v)) : PySem.W.ks_superIn K C C nm = some (some v) := by
  unfold PySem.W.ks_superIn
  rw [h1, Option.bind_some, h3]
  unfold PySem.W.findIn at h4
  simp only [h2] at h4
  exact h4
end PV

set_option maxHeartbeats 4000000
namespace PV
open PySem PySem.Spec L2 PyProof.Rows
abbrev clsOf : List Addr → Nat → Addr := fun l n => l.getD n 0
def lay_k10 : Nat → List Str
  | 0 => []
  | 1 => ["value"]
  | _ => []
abbrev cx (K : PySem.W.Frag) (cls : Nat → Addr) : Ctx := ⟨K, cls, lay_k10, fun _ => 0⟩
def sub_k10 (a b : Nat) : Bool := (a == 0 && b == 0) || (a == 1 && b == 1) || (a == 1 && b == 0)
def Breduced : M Fl := seqF (parF 2 3 (calF absP (consF (varF 0) (nilF))) (valF (takeF (varF 1))))
  (seqF (whileF 10000000000000000000000000000000000000000 (tstF (binF gtP (varF 3) (cF (.int 0)))) (parF 2 3 (valF (takeF (varF 3))) (binF modP (varF 2) (varF 3))))
  (retF (ifEF (tstF (binF gtP (varF 2) (cF (.int 0)))) (tupF (consF (valF (takeF (binF fdivP (varF 0) (varF 2)))) (consF (valF (takeF (binF fdivP (varF 1) (varF 2)))) (nilF)))) (tupF (consF (cF (.int 0)) (consF (cF (.int 1)) (nilF)))))))
def Freduced : FN := fnF 2 Breduced
def Btimes : M Fl := retF (callF (Freduced) (consF (valF (takeF (binF mulP (binF ixP (varF 0) (cF (.int 0))) (binF ixP (varF 1) (cF (.int 0)))))) (consF (valF (takeF (binF mulP (binF ixP (varF 0) (cF (.int 1))) (binF ixP (varF 1) (cF (.int 1)))))) (nilF))))
def Ftimes : FN := fnF 0 Btimes
def Bplus : M Fl := retF (callF (Freduced) (consF (valF (takeF (binF addP (binF mulP (binF ixP (varF 0) (cF (.int 0))) (binF ixP (varF 1) (cF (.int 1)))) (binF mulP (binF ixP (varF 1) (cF (.int 0))) (binF ixP (varF 0) (cF (.int 1))))))) (consF (valF (takeF (binF mulP (binF ixP (varF 0) (cF (.int 1))) (binF ixP (varF 1) (cF (.int 1)))))) (nilF))))
def Fplus : FN := fnF 0 Bplus
def Bis_less : M Fl := retF (binF ltP (binF mulP (binF ixP (varF 0) (cF (.int 0))) (binF ixP (varF 1) (cF (.int 1)))) (binF mulP (binF ixP (varF 1) (cF (.int 0))) (binF ixP (varF 0) (cF (.int 1)))))
def Fis_less : FN := fnF 0 Bis_less
noncomputable def Bmedian : M Fl := seqF (setF 1 (lstF (consF (binF ixP (varF 0) (cF (.int 0))) (nilF))))
  (seqF (forF (itF (takeF (slF (varF 0) (inP (cF (.int 1))) (noP)))) (nameT 2) (seqF (setF 3 (calF lenP (consF (lcOF 1 (nameT 6) (notF (tstF (callF (Fis_less) (consF (valF (takeF (varF 2))) (consF (valF (takeF (varF 6))) (nilF)))))) (takeF (varF 6)) [6]) (nilF))))
  (dropF (mutF insP 1 (consF (valF (takeF (varF 3))) (consF (valF (takeF (varF 2))) (nilF)))))))
  (seqF (parF 4 5 (binF ixP (varF 1) (binF fdivP (binF subP (calF lenP (consF (varF 1) (nilF))) (cF (.int 1))) (cF (.int 2)))) (binF ixP (varF 1) (binF fdivP (calF lenP (consF (varF 1) (nilF))) (cF (.int 2)))))
  (retF (callF (Ftimes) (consF (valF (takeF (callF (Fplus) (consF (valF (takeF (varF 4))) (consF (valF (takeF (varF 5))) (nilF)))))) (consF (tupF (consF (cF (.int 1)) (consF (cF (.int 2)) (nilF)))) (nilF)))))))
noncomputable def Fmedian : FN := fnF 6 Bmedian
def B_law_alike (Fd : FN) : M Fl := seqF (ifF (tstF (calF isiP' (consF (varF 1) (consF (tupF (consF (cF (.ty "tuple")) (consF (cF (.ty "list")) (nilF)))) (nilF))))) (seqF (ifF (orF (notF (tstF (calF isiP' (consF (varF 0) (consF (tupF (consF (cF (.ty "tuple")) (consF (cF (.ty "list")) (nilF)))) (nilF)))))) (tstF (binF neP (calF isiP' (consF (varF 0) (consF (cF (.ty "list")) (nilF)))) (calF isiP' (consF (varF 1) (consF (cF (.ty "list")) (nilF))))))) (retF (cF (.bl false))) (skipF))
  (seqF (ifF (tstF (binF neP (calF lenP (consF (varF 0) (nilF))) (calF lenP (consF (varF 1) (nilF))))) (retF (cF (.bl false))) (skipF))
  (retF (binF eqP (lcF (rng1F (consF (calF lenP (consF (varF 1) (nilF))) (nilF))) (nameT 2) (notF (tstF (callF Fd (consF (binF ixP (varF 0) (varF 2)) (consF (binF ixP (varF 1) (varF 2)) (nilF)))))) (takeF (varF 2)) [2]) (lstF (nilF)))))) (skipF))
  (seqF (ifF (orF (tstF (binF (isNP false) (varF 1) (cF .non))) (tstF (calF isiP' (consF (varF 1) (consF (cF (.ty "str")) (nilF)))))) (retF (andVF (binF eqP (varF 0) (varF 1)) (binF eqP (calF isiP' (consF (varF 0) (consF (cF (.ty "str")) (nilF)))) (calF isiP' (consF (varF 1) (consF (cF (.ty "str")) (nilF))))))) (skipF))
  (retF (andVF (calF isiP' (consF (varF 0) (consF (cF (.ty "int")) (nilF)))) (andVF (binF eqP (calF isiP' (consF (varF 0) (consF (cF (.ty "bool")) (nilF)))) (calF isiP' (consF (varF 1) (consF (cF (.ty "bool")) (nilF))))) (binF eqP (varF 0) (varF 1))))))
def F_law_alike : Nat → FN
  | 0 => fun _ => .bad
  | d + 1 => fnF 1 (B_law_alike (F_law_alike d))
def Bis_row : M Fl := retF (calF isiP' (consF (varF 0) (consF (tupF (consF (cF (.ty "list")) (consF (cF (.ty "tuple")) (nilF)))) (nilF))))
def Fis_row : FN := fnF 0 Bis_row
def Bis_whole : M Fl := retF (andVF (calF isiP' (consF (varF 0) (consF (cF (.ty "int")) (nilF)))) (notVF (calF isiP' (consF (varF 0) (consF (cF (.ty "bool")) (nilF))))))
def Fis_whole : FN := fnF 0 Bis_whole
def Bis_fraction : M Fl := seqF (ifF (orF (notF (tstF (callF (Fis_row) (consF (valF (takeF (varF 0))) (nilF))))) (orF (tstF (binF neP (calF lenP (consF (varF 0) (nilF))) (cF (.int 2)))) (orF (notF (tstF (callF (Fis_whole) (consF (binF ixP (varF 0) (cF (.int 0))) (nilF))))) (orF (notF (tstF (callF (Fis_whole) (consF (binF ixP (varF 0) (cF (.int 1))) (nilF))))) (tstF (binF ltP (binF ixP (varF 0) (cF (.int 1))) (cF (.int 1)))))))) (retF (cF (.bl false))) (skipF))
  (retF (binF eqP (callF (Freduced) (consF (binF ixP (varF 0) (cF (.int 0))) (consF (binF ixP (varF 0) (cF (.int 1))) (nilF)))) (tupF (consF (binF ixP (varF 0) (cF (.int 0))) (consF (binF ixP (varF 0) (cF (.int 1))) (nilF))))))
def Fis_fraction : FN := fnF 0 Bis_fraction
def B_law_low : M Fl := seqF (setF 2 (cF (.int 1)))
  (seqF (forF (rng2F (consF (cF (.int 1)) (consF (binF addP (calF intP (consF (varF 1) (nilF))) (cF (.int 1))) (nilF)))) (nameT 3) (ifF (andF (tstF (binF eqP (binF modP (calF intP (consF (varF 0) (nilF))) (varF 3)) (cF (.int 0)))) (tstF (binF eqP (binF modP (calF intP (consF (varF 1) (nilF))) (varF 3)) (cF (.int 0))))) (setF 2 (valF (takeF (varF 3)))) (skipF)))
  (retF (tupF (consF (valF (takeF (binF fdivP (calF intP (consF (varF 0) (nilF))) (varF 2)))) (consF (valF (takeF (binF fdivP (calF intP (consF (varF 1) (nilF))) (varF 2)))) (nilF))))))
def F_law_low : FN := fnF 2 B_law_low
def Bwant_fraction : M Fl := seqF (ifF (notF (tstF (callF (Fis_fraction) (consF (valF (takeF (varF 0))) (nilF))))) (raiseF 1 1 (consF (valF (takeF (varF 0))) (nilF))) (skipF))
  (retF (calF tupleP (consF (varF 0) (nilF))))
def Fwant_fraction : FN := fnF 0 Bwant_fraction
def B_law_taken : M Fl := seqF (ifF (tstF (binF gtP (binF ixP (varF 0) (cF (.int 3))) (cF (.int 0)))) (seqF (setF 3 (binF modP (calF intP (consF (binF ixP (varF 0) (cF (.int 3))) (nilF))) (varF 1)))
  (seqF (stF 0 (takeF (binF fdivP (binF ixP (varF 0) (cF (.int 3))) (varF 1))) (cF (.int 3)))
  (retF (varF 3)))) (skipF))
  (seqF (stF 0 (takeF (binF addP (binF ixP (varF 0) (cF (.int 1))) (cF (.int 1)))) (cF (.int 1)))
  (seqF (ifF (tstF (binF gtP (binF ixP (varF 0) (cF (.int 1))) (calF lenP (consF (binF ixP (varF 0) (cF (.int 0))) (nilF))))) (seqF (stF 0 (takeF (binF modP (calF intP (consF (binF addP (binF mulP (binF ixP (varF 0) (cF (.int 2))) (cF (.int 48271))) (cF (.int 11))) (nilF))) (cF (.int 2147483647)))) (cF (.int 2)))
  (retF (binF modP (calF intP (consF (binF fdivP (binF ixP (varF 0) (cF (.int 2))) (cF (.int 7))) (nilF))) (varF 1)))) (skipF))
  (seqF (setF 2 (binF ixP (binF ixP (varF 0) (cF (.int 0))) (binF subP (binF ixP (varF 0) (cF (.int 1))) (cF (.int 1)))))
  (seqF (stF 0 (takeF (binF modP (calF intP (consF (binF addP (binF addP (binF mulP (binF ixP (varF 0) (cF (.int 2))) (cF (.int 48271))) (varF 2)) (cF (.int 11))) (nilF))) (cF (.int 2147483647)))) (cF (.int 2)))
  (seqF (ifF (tstF (binF geP (varF 2) (binF powP (cF (.int 10)) (cF (.int 18))))) (stF 0 (takeF (binF fdivP (varF 2) (varF 1))) (cF (.int 3))) (skipF))
  (retF (binF modP (calF intP (consF (varF 2) (nilF))) (varF 1))))))))
def F_law_taken : FN := fnF 2 B_law_taken
def B_law_truth : M Fl := retF (andVF (calF isiP' (consF (varF 0) (consF (cF (.ty "bool")) (nilF)))) (binF eqP (varF 0) (varF 1)))
def F_law_truth : FN := fnF 0 B_law_truth
def Btotal : M Fl := seqF (setF 1 (tupF (consF (cF (.int 0)) (consF (cF (.int 1)) (nilF)))))
  (seqF (forF (itF (takeF (varF 0))) (nameT 2) (setF 1 (callF (Fplus) (consF (valF (takeF (varF 1))) (consF (valF (takeF (varF 2))) (nilF))))))
  (retF (varF 1)))
def Ftotal : FN := fnF 2 Btotal
def Bminus : M Fl := retF (callF (Freduced) (consF (valF (takeF (binF subP (binF mulP (binF ixP (varF 0) (cF (.int 0))) (binF ixP (varF 1) (cF (.int 1)))) (binF mulP (binF ixP (varF 1) (cF (.int 0))) (binF ixP (varF 0) (cF (.int 1))))))) (consF (valF (takeF (binF mulP (binF ixP (varF 0) (cF (.int 1))) (binF ixP (varF 1) (cF (.int 1)))))) (nilF))))
def Fminus : FN := fnF 0 Bminus
def Bfloor_of : M Fl := retF (binF fdivP (binF ixP (varF 0) (cF (.int 0))) (binF ixP (varF 0) (cF (.int 1))))
def Ffloor_of : FN := fnF 0 Bfloor_of
def Bceiling_of : M Fl := retF (unF negP (binF fdivP (unF negP (binF ixP (varF 0) (cF (.int 0)))) (binF ixP (varF 0) (cF (.int 1)))))
def Fceiling_of : FN := fnF 0 Bceiling_of
def Bnearest : M Fl := retF (binF fdivP (binF addP (binF mulP (cF (.int 2)) (binF ixP (varF 0) (cF (.int 0)))) (binF ixP (varF 0) (cF (.int 1)))) (binF mulP (cF (.int 2)) (binF ixP (varF 0) (cF (.int 1)))))
def Fnearest : FN := fnF 0 Bnearest
def Bover : M Fl := retF (callF (Freduced) (consF (valF (takeF (binF mulP (binF ixP (varF 0) (cF (.int 0))) (binF ixP (varF 1) (cF (.int 1)))))) (consF (valF (takeF (binF mulP (binF ixP (varF 0) (cF (.int 1))) (binF ixP (varF 1) (cF (.int 0)))))) (nilF))))
def Fover : FN := fnF 0 Bover
noncomputable def Slaw1 : M Fl := setF 1 (lstF (consF (valF (takeF (varF 0))) (consF (cF (.int 0)) (consF (cF (.int 61)) (consF (cF (.int 0)) (nilF))))))
noncomputable def Slaw2 : M Fl := asgF (tupT (consT (nameT 9) (consT (nameT 10) (consT (nameT 11) (consT (nameT 12) (nilT)))))) (takeF (tupF (consF (valF (takeF (binF subP (callF (F_law_taken) (consF (varF 1) (consF (cF (.int 121)) (nilF)))) (cF (.int 60))))) (consF (valF (takeF (binF addP (cF (.int 1)) (callF (F_law_taken) (consF (varF 1) (consF (cF (.int 60)) (nilF))))))) (consF (valF (takeF (binF subP (callF (F_law_taken) (consF (varF 1) (consF (cF (.int 121)) (nilF)))) (cF (.int 60))))) (consF (valF (takeF (binF addP (cF (.int 1)) (callF (F_law_taken) (consF (varF 1) (consF (cF (.int 60)) (nilF))))))) (nilF)))))))
noncomputable def Slaw3 : M Fl := parF 13 14 (callF (Freduced) (consF (valF (takeF (varF 9))) (consF (valF (takeF (varF 10))) (nilF)))) (callF (Freduced) (consF (valF (takeF (varF 11))) (consF (valF (takeF (varF 12))) (nilF))))
noncomputable def Slaw4 : M Fl := ifF (orF (notF (tstF (callF (F_law_alike 5) (consF (tupF (consF (valF (takeF (varF 13))) (consF (valF (takeF (varF 14))) (nilF)))) (consF (tupF (consF (valF (takeF (callF (F_law_low) (consF (valF (takeF (varF 9))) (consF (valF (takeF (varF 10))) (nilF)))))) (consF (valF (takeF (callF (F_law_low) (consF (valF (takeF (varF 11))) (consF (valF (takeF (varF 12))) (nilF)))))) (nilF)))) (nilF)))))) (orF (notF (tstF (callF (Fis_fraction) (consF (valF (takeF (varF 13))) (nilF))))) (tstF (callF (Fis_fraction) (consF (tupF (consF (valF (takeF (binF mulP (varF 9) (cF (.int 2))))) (consF (valF (takeF (binF mulP (varF 10) (cF (.int 2))))) (nilF)))) (nilF)))))) (retF (cF (.bl false))) (skipF)
noncomputable def Slaw5 : M Fl := ifF (notF (tstF (callF (F_law_alike 5) (consF (tupF (consF (valF (takeF (callF (Fplus) (consF (valF (takeF (varF 13))) (consF (valF (takeF (varF 14))) (nilF)))))) (consF (valF (takeF (callF (Fminus) (consF (valF (takeF (varF 13))) (consF (valF (takeF (varF 14))) (nilF)))))) (consF (valF (takeF (callF (Ftimes) (consF (valF (takeF (varF 13))) (consF (valF (takeF (varF 14))) (nilF)))))) (nilF))))) (consF (tupF (consF (valF (takeF (callF (F_law_low) (consF (valF (takeF (binF addP (binF mulP (varF 9) (varF 12)) (binF mulP (varF 11) (varF 10))))) (consF (valF (takeF (binF mulP (varF 10) (varF 12)))) (nilF)))))) (consF (valF (takeF (callF (F_law_low) (consF (valF (takeF (binF subP (binF mulP (varF 9) (varF 12)) (binF mulP (varF 11) (varF 10))))) (consF (valF (takeF (binF mulP (varF 10) (varF 12)))) (nilF)))))) (consF (valF (takeF (callF (F_law_low) (consF (valF (takeF (binF mulP (varF 9) (varF 11)))) (consF (valF (takeF (binF mulP (varF 10) (varF 12)))) (nilF)))))) (nilF))))) (nilF)))))) (retF (cF (.bl false))) (skipF)
noncomputable def Slaw6 : M Fl := ifF (orF (andF (tstF (binF gtP (varF 11) (cF (.int 0)))) (notF (tstF (callF (F_law_alike 5) (consF (valF (takeF (callF (Fover) (consF (valF (takeF (varF 13))) (consF (valF (takeF (varF 14))) (nilF)))))) (consF (valF (takeF (callF (F_law_low) (consF (valF (takeF (binF mulP (varF 9) (varF 12)))) (consF (valF (takeF (binF mulP (varF 10) (varF 11)))) (nilF)))))) (nilF))))))) (notF (tstF (callF (F_law_truth) (consF (valF (takeF (callF (Fis_less) (consF (valF (takeF (varF 13))) (consF (valF (takeF (varF 14))) (nilF)))))) (consF (binF ltP (binF mulP (varF 9) (varF 12)) (binF mulP (varF 11) (varF 10))) (nilF))))))) (retF (cF (.bl false))) (skipF)
noncomputable def Slaw7 : M Fl := setF 2 (lrgF (rng2F (consF (unF negP (cF (.int 61))) (consF (cF (.int 62)) nilF))))
noncomputable def Slaw8 : M Fl := parF 6 7 (calF maxLP (consF (lcF (itF (takeF (varF 2))) (nameT 18) (tstF (binF leP (binF mulP (varF 18) (varF 10)) (varF 9))) (takeF (varF 18)) [18]) (nilF))) (calF minLP (consF (lcF (itF (takeF (varF 2))) (nameT 18) (tstF (binF geP (binF mulP (varF 18) (varF 10)) (varF 9))) (takeF (varF 18)) [18]) (nilF)))
noncomputable def Slaw9 : M Fl := setF 3 (calF maxLP (consF (lcF (itF (takeF (varF 2))) (nameT 18) (tstF (binF leP (binF mulP (binF subP (binF mulP (cF (.int 2)) (varF 18)) (cF (.int 1))) (varF 10)) (binF mulP (cF (.int 2)) (varF 9)))) (takeF (varF 18)) [18]) (nilF)))
noncomputable def Slaw10 : M Fl := ifF (notF (tstF (callF (F_law_alike 5) (consF (tupF (consF (valF (takeF (callF (Ffloor_of) (consF (valF (takeF (varF 13))) (nilF))))) (consF (valF (takeF (callF (Fceiling_of) (consF (valF (takeF (varF 13))) (nilF))))) (consF (valF (takeF (callF (Fnearest) (consF (valF (takeF (varF 13))) (nilF))))) (nilF))))) (consF (tupF (consF (valF (takeF (varF 6))) (consF (valF (takeF (varF 7))) (consF (valF (takeF (varF 3))) (nilF))))) (nilF)))))) (retF (cF (.bl false))) (skipF)
noncomputable def Slaw11 : M Fl := parF 15 16 (binF addP (lstF (consF (valF (takeF (varF 13))) (consF (valF (takeF (varF 14))) (nilF)))) (lcF (rng1F (consF (callF (F_law_taken) (consF (varF 1) (consF (cF (.int 5)) (nilF)))) (nilF))) (nameT 18) (yesF) (takeF (callF (Freduced) (consF (valF (takeF (binF subP (callF (F_law_taken) (consF (varF 1) (consF (cF (.int 40)) (nilF)))) (cF (.int 20))))) (consF (valF (takeF (binF addP (cF (.int 1)) (callF (F_law_taken) (consF (varF 1) (consF (cF (.int 6)) (nilF))))))) (nilF))))) [18])) (tupF (consF (cF (.int 0)) (consF (cF (.int 1)) (nilF))))
noncomputable def Slaw12 : M Fl := forF (itF (takeF (varF 15))) (nameT 4) (setF 16 (callF (F_law_low) (consF (valF (takeF (binF addP (binF mulP (binF ixP (varF 16) (cF (.int 0))) (binF ixP (varF 4) (cF (.int 1)))) (binF mulP (binF ixP (varF 4) (cF (.int 0))) (binF ixP (varF 16) (cF (.int 1))))))) (consF (valF (takeF (binF mulP (binF ixP (varF 16) (cF (.int 1))) (binF ixP (varF 4) (cF (.int 1)))))) (nilF)))))
noncomputable def Slaw13 : M Fl := ifF (notF (tstF (callF (F_law_alike 5) (consF (valF (takeF (callF (Ftotal) (consF (valF (takeF (varF 15))) (nilF))))) (consF (valF (takeF (varF 16))) (nilF)))))) (retF (cF (.bl false))) (skipF)
noncomputable def Slaw14 : M Fl := setF 5 (callF (Fmedian) (consF (valF (takeF (varF 15))) (nilF)))
noncomputable def Slaw15 : M Fl := setF 6 (calF lenP (consF (lcF (itF (takeF (varF 15))) (nameT 4) (tstF (binF ltP (binF mulP (binF ixP (varF 4) (cF (.int 0))) (binF ixP (varF 5) (cF (.int 1)))) (binF mulP (binF ixP (varF 5) (cF (.int 0))) (binF ixP (varF 4) (cF (.int 1)))))) (takeF (cF (.int 1))) [4]) (nilF)))
noncomputable def Slaw16 : M Fl := setF 7 (calF lenP (consF (lcF (itF (takeF (varF 15))) (nameT 4) (tstF (binF gtP (binF mulP (binF ixP (varF 4) (cF (.int 0))) (binF ixP (varF 5) (cF (.int 1)))) (binF mulP (binF ixP (varF 5) (cF (.int 0))) (binF ixP (varF 4) (cF (.int 1)))))) (takeF (cF (.int 1))) [4]) (nilF)))
noncomputable def Slaw17 : M Fl := ifF (orF (tstF (binF gtP (binF mulP (cF (.int 2)) (varF 6)) (calF lenP (consF (varF 15) (nilF))))) (orF (tstF (binF gtP (binF mulP (cF (.int 2)) (varF 7)) (calF lenP (consF (varF 15) (nilF))))) (andF (tstF (binF eqP (binF modP (calF lenP (consF (varF 15) (nilF))) (cF (.int 2))) (cF (.int 1)))) (tstF (binF (inLP true) (varF 5) (varF 15)))))) (retF (cF (.bl false))) (skipF)
noncomputable def Slaw18 : M Fl := forF (itF (takeF (lstF (consF (cF .non) (consF (tupF (consF (cF (.int 1)) (consF (cF (.int 0)) (nilF)))) (consF (tupF (consF (cF (.int 2)) (consF (cF (.int 4)) (nilF)))) (consF (tupF (consF (cF (.int 0)) (consF (cF (.int 2)) (nilF)))) (consF (tupF (consF (cF (.int 1)) (nilF))) (consF (tupF (consF (cF (.bl true)) (consF (cF (.int 2)) (nilF)))) (consF (valF (takeF (lstF (consF (cF (.int 1)) (consF (cF (.int 2)) (consF (cF (.int 3)) (nilF))))))) (consF (cF (.int 5)) (consF (tupF (consF (cF (.int 1)) (consF (unF negP (cF (.int 1))) (nilF)))) (nilF))))))))))))) (nameT 8) (seqF (ifF (tstF (callF (Fis_fraction) (consF (valF (takeF (varF 8))) (nilF)))) (retF (cF (.bl false))) (skipF))
  (tryF sub_k10 2 17 1 (seqF (dropF (callF (Fwant_fraction) (consF (valF (takeF (varF 8))) (nilF))))
  (retF (cF (.bl false)))) (fun _ ps => ifF (tstF (binF neP (calF reprP (consF (xfF ps 0) (nilF))) (calF reprP (consF (varF 8) (nilF))))) (retF (cF (.bl false))) (skipF))))
noncomputable def Slaw19 : M Fl := retF (callF (F_law_alike 5) (consF (valF (takeF (callF (Fwant_fraction) (consF (valF (takeF (calF listP (consF (varF 13) (nilF))))) (nilF))))) (consF (valF (takeF (varF 13))) (nilF))))
noncomputable def Blaw : M Fl := seqF Slaw1 (seqF Slaw2 (seqF Slaw3 (seqF Slaw4 (seqF Slaw5 (seqF Slaw6 (seqF Slaw7 (seqF Slaw8 (seqF Slaw9 (seqF Slaw10 (seqF Slaw11 (seqF Slaw12 (seqF Slaw13 (seqF Slaw14 (seqF Slaw15 (seqF Slaw16 (seqF Slaw17 (seqF Slaw18 (Slaw19))))))))))))))))))
noncomputable def Flaw : FN := fnF 18 Blaw
def top (i : Nat) : Stmt := PySem.Challenge.pw_huttohut_k10_whole_fractions.main.body.getD i (.Pass ⟨0, 0, 0, 0⟩)
structure Txt (K : PySem.W.Frag) (mg : Str → Option Value) (cls : Nat → Addr) : Prop where
  abs : mg "abs" = none
  bool_ : mg "bool" = none
  int_ : mg "int" = none
  isinstance : mg "isinstance" = none
  len : mg "len" = none
  list : mg "list" = none
  max : mg "max" = none
  min : mg "min" = none
  range : mg "range" = none
  repr : mg "repr" = none
  str_ : mg "str" = none
  tuple : mg "tuple" = none
  mg_BadNumber : mg "BadNumber" = some (.ref (cls 1))
  xf_BadNumber : XfC K (cls 1)
  no_BadNumber_value : PySem.W.findIn K (.ref (cls 1)) "value" = some none
  exm_BadNumber : ∀ C', C' < 2 → PySem.W.exmOne K (.ref (cls C')) (.ref (cls 1)) = some (sub_k10 C' 1)
theorem of_leaf_BadNumber {C : Nat} (hm : C < 2) (h : sub_k10 C 1 = true) : C = 1 := by revert C; decide
theorem lay_BadNumber_0 {ps : List P} : ∀ vs : List V, ps.length = vs.length → ((lay_k10 1).zip vs).reverse.lookup ("value" : Str) = vs[0]? := fun vs _ => lay1 vs
theorem layne_BadNumber : lay_k10 1 ≠ [] := by decide
end PV

set_option maxHeartbeats 4000000
namespace PV
open PySem PySem.Spec L2 PyProof.Rows
section
variable {p : Program} {w : World} {K : PySem.W.Frag} {mg : Str → Option Value} {base : Heap} {cls : Nat → Addr}
theorem screduced : FnScope ["top", "bottom", "one", "other"] ["top", "bottom"] (defScope (top 7)) := ⟨rfl, rfl, rfl, by decide +kernel, rfl, by decide +kernel, by decide +kernel⟩
theorem okreduced (T : Txt K mg cls) (D : At K mg "reduced" (top 7) ["top", "bottom"]) : Ca p w K mg base (cx K cls) 1 "reduced" 2 Freduced := by
  have S := @screduced
  unfold Freduced
  refine ca_of (N := ["top", "bottom", "one", "other"]) (ps := ["top", "bottom"]) (body := Breduced) D S rfl rfl fun f cdv A outer s H E gd hr => ?_
  unfold Breduced
  exact (s_cons (s_par rfl S.nd (i := 2) (j := 3) rfl rfl (by decide) rfl rfl (p_blt call_abs v_abs rfl T.abs bb_abs (pr_cons (p_var 0) pr_nil)) (p_val (p_take (p_var 1))) rfl)
  (s_cons (s_while 10000000000000000000000000000000000000000 (passes_of rfl) (p_tcmp op_gt v_cmp (p_var 3) p_int rfl) (s_one (s_par rfl S.nd (i := 2) (j := 3) rfl rfl (by decide) rfl rfl (p_val (p_take (p_var 3))) (p_bin op_mod v_mod (p_var 2) (p_var 3)) rfl)))
  (s_one (s_ret (p_ifExp (p_tcmp op_gt v_cmp (p_var 2) p_int rfl) (p_tup (pr_cons (p_val (p_take (p_bin op_fdivW v_fdiv (p_var 0) (p_var 2)))) (pr_cons (p_val (p_take (p_bin op_fdivW v_fdiv (p_var 1) (p_var 2)))) pr_nil))) (p_tup (pr_cons p_int (pr_cons p_int pr_nil))))))))

end
end PV

set_option maxHeartbeats 4000000
namespace PV
open PySem PySem.Spec L2 PyProof.Rows
section
variable {p : Program} {w : World} {K : PySem.W.Frag} {mg : Str → Option Value} {base : Heap} {cls : Nat → Addr}
theorem sctimes : FnScope ["one", "other"] ["one", "other"] (defScope (top 12)) := ⟨rfl, rfl, rfl, by decide +kernel, rfl, by decide +kernel, by decide +kernel⟩
theorem oktimes (T : Txt K mg cls) (D : At K mg "times" (top 12) ["one", "other"]) (Creduced : Ca p w K mg base (cx K cls) 1 "reduced" 2 (Freduced)) : Ca p w K mg base (cx K cls) 2 "times" 2 Ftimes := by
  have S := @sctimes
  unfold Ftimes
  refine ca_of (N := ["one", "other"]) (ps := ["one", "other"]) (body := Btimes) D S rfl rfl fun f cdv A outer s H E gd hr => ?_
  unfold Btimes
  exact (s_one (s_ret (p_ca Creduced (by omega) gd hr (takes_of rfl rfl rfl rfl) rfl (pr_cons (p_val (p_take (p_bin op_mul3 v_mul (p_ix ix_seq v_ix (p_var 0) p_int (fun _ _ => rfl)) (p_ix ix_seq v_ix (p_var 1) p_int (fun _ _ => rfl))))) (pr_cons (p_val (p_take (p_bin op_mul3 v_mul (p_ix ix_seq v_ix (p_var 0) p_int (fun _ _ => rfl)) (p_ix ix_seq v_ix (p_var 1) p_int (fun _ _ => rfl))))) pr_nil)) (len_cons (len_cons len_nil)))))

end
end PV

set_option maxHeartbeats 4000000
namespace PV
open PySem PySem.Spec L2 PyProof.Rows
section
variable {p : Program} {w : World} {K : PySem.W.Frag} {mg : Str → Option Value} {base : Heap} {cls : Nat → Addr}
theorem scplus : FnScope ["one", "other"] ["one", "other"] (defScope (top 10)) := ⟨rfl, rfl, rfl, by decide +kernel, rfl, by decide +kernel, by decide +kernel⟩
theorem okplus (T : Txt K mg cls) (D : At K mg "plus" (top 10) ["one", "other"]) (Creduced : Ca p w K mg base (cx K cls) 1 "reduced" 2 (Freduced)) : Ca p w K mg base (cx K cls) 2 "plus" 2 Fplus := by
  have S := @scplus
  unfold Fplus
  refine ca_of (N := ["one", "other"]) (ps := ["one", "other"]) (body := Bplus) D S rfl rfl fun f cdv A outer s H E gd hr => ?_
  unfold Bplus
  exact (s_one (s_ret (p_ca Creduced (by omega) gd hr (takes_of rfl rfl rfl rfl) rfl (pr_cons (p_val (p_take (p_bin op_add4 v_add (p_bin op_mul3 v_mul (p_ix ix_seq v_ix (p_var 0) p_int (fun _ _ => rfl)) (p_ix ix_seq v_ix (p_var 1) p_int (fun _ _ => rfl))) (p_bin op_mul3 v_mul (p_ix ix_seq v_ix (p_var 1) p_int (fun _ _ => rfl)) (p_ix ix_seq v_ix (p_var 0) p_int (fun _ _ => rfl)))))) (pr_cons (p_val (p_take (p_bin op_mul3 v_mul (p_ix ix_seq v_ix (p_var 0) p_int (fun _ _ => rfl)) (p_ix ix_seq v_ix (p_var 1) p_int (fun _ _ => rfl))))) pr_nil)) (len_cons (len_cons len_nil)))))

end
end PV

set_option maxHeartbeats 4000000
namespace PV
open PySem PySem.Spec L2 PyProof.Rows
section
variable {p : Program} {w : World} {K : PySem.W.Frag} {mg : Str → Option Value} {base : Heap} {cls : Nat → Addr}
theorem scis_less : FnScope ["one", "other"] ["one", "other"] (defScope (top 14)) := ⟨rfl, rfl, rfl, by decide +kernel, rfl, by decide +kernel, by decide +kernel⟩
theorem okis_less (T : Txt K mg cls) (D : At K mg "is_less" (top 14) ["one", "other"]) : Ca p w K mg base (cx K cls) 1 "is_less" 2 Fis_less := by
  have S := @scis_less
  unfold Fis_less
  refine ca_of (N := ["one", "other"]) (ps := ["one", "other"]) (body := Bis_less) D S rfl rfl fun f cdv A outer s H E gd hr => ?_
  unfold Bis_less
  exact (s_one (s_ret (p_cmp op_lt v_cmp (p_bin op_mul3 v_mul (p_ix ix_seq v_ix (p_var 0) p_int (fun _ _ => rfl)) (p_ix ix_seq v_ix (p_var 1) p_int (fun _ _ => rfl))) (p_bin op_mul3 v_mul (p_ix ix_seq v_ix (p_var 1) p_int (fun _ _ => rfl)) (p_ix ix_seq v_ix (p_var 0) p_int (fun _ _ => rfl))) rfl)))

end
end PV

set_option maxHeartbeats 4000000
namespace PV
open PySem PySem.Spec L2 PyProof.Rows
section
variable {p : Program} {w : World} {K : PySem.W.Frag} {mg : Str → Option Value} {base : Heap} {cls : Nat → Addr}
theorem scmedian : FnScope ["rows", "row", "one", "place", "first", "second", "other"] ["rows"] (defScope (top 19)) := ⟨rfl, rfl, rfl, by decide +kernel, rfl, by decide +kernel, by decide +kernel⟩
theorem okmedian (T : Txt K mg cls) (D : At K mg "median" (top 19) ["rows"]) (Cis_less : Ca p w K mg base (cx K cls) 1 "is_less" 2 (Fis_less)) (Cplus : Ca p w K mg base (cx K cls) 2 "plus" 2 (Fplus)) (Ctimes : Ca p w K mg base (cx K cls) 2 "times" 2 (Ftimes)) : Ca p w K mg base (cx K cls) 3 "median" 1 Fmedian := by
  have S := @scmedian
  unfold Fmedian
  refine ca_of (N := ["rows", "row", "one", "place", "first", "second", "other"]) (ps := ["rows"]) (body := Bmedian) D S rfl rfl fun f cdv A outer s H E gd hr => ?_
  unfold Bmedian
  exact (s_cons (s_set S.nd (i := 1) rfl (.inl rfl) (p_lst (pr_cons (p_ix ix_seq v_ix (p_var 0) p_int (fun _ _ => rfl)) pr_nil)))
  (s_cons (s_for (passes_of rfl) rfl (i_seq rfl (p_take (p_sl rfl (p_var 0) (o_in p_int) o_no))) (g_name S.nd rfl (.inr rfl) (i := 2)) (s_cons (s_set S.nd (i := 3) rfl (.inl rfl) (p_blt cl_len v_len rfl T.len bb_len (pr_cons (p_lcO (own := [("other", 6)]) (i0 := 1) (by decide) rfl S.nd rfl (.inl rfl) (blkOk_by (N := ["rows", "row", "one", "place", "first", "second", "other"]) (sc := defScope (top 19)) (own := [("other", 6)]) (by decide +kernel)) (fun _ _ _ _ _ => (g_name S.nd rfl (.inl rfl) (i := 6))) (fun _ _ _ _ _ => (t_one (p_not (p_tst (p_ca Cis_less (by omega) gd hr L2.takes0 rfl (pr_cons (p_val (p_take (p_var 2))) (pr_cons (p_val (p_take (p_var 6))) pr_nil)) (len_cons (len_cons len_nil))))))) (fun _ _ _ _ _ => (p_take (p_var 6)))) pr_nil)))
  (s_one (s_expr (p_mut PySem.F.plainAttrs_list PySem.F.slot_list_insert PySem.F.type_list_insert mt_insert v_insert (p_var 1) (pr_cons (p_val (p_take (p_var 3))) (pr_cons (p_val (p_take (p_var 2))) pr_nil)))))))
  (s_cons (s_par rfl S.nd (i := 4) (j := 5) rfl rfl (by decide) rfl rfl (p_ix ix_seq v_ix (p_var 1) (p_bin op_fdivW v_fdiv (p_bin op_sub v_sub (p_blt cl_len v_len rfl T.len bb_len (pr_cons (p_var 1) pr_nil)) p_int) p_int) (fun _ _ => rfl)) (p_ix ix_seq v_ix (p_var 1) (p_bin op_fdivW v_fdiv (p_blt cl_len v_len rfl T.len bb_len (pr_cons (p_var 1) pr_nil)) p_int) (fun _ _ => rfl)) rfl)
  (s_one (s_ret (p_ca Ctimes (by omega) gd hr (takes_of rfl rfl rfl rfl) rfl (pr_cons (p_val (p_take (p_ca Cplus (by omega) gd hr (takes_of rfl rfl rfl rfl) rfl (pr_cons (p_val (p_take (p_var 4))) (pr_cons (p_val (p_take (p_var 5))) pr_nil)) (len_cons (len_cons len_nil))))) (pr_cons (p_tup (pr_cons p_int (pr_cons p_int pr_nil))) pr_nil)) (len_cons (len_cons len_nil))))))))

end
end PV

set_option maxHeartbeats 4000000
namespace PV
open PySem PySem.Spec L2 PyProof.Rows
section
variable {p : Program} {w : World} {K : PySem.W.Frag} {mg : Str → Option Value} {base : Heap} {cls : Nat → Addr}
theorem sc_law_alike : FnScope ["found", "due", "k"] ["found", "due"] (defScope (top 22)) := ⟨rfl, rfl, rfl, by decide +kernel, rfl, by decide +kernel, by decide +kernel⟩
theorem ok_law_alike_at {KB : Nat} {FD : FN} (C_law_alike : Ca p w K mg base (cx K cls) KB "_law_alike" 2 FD) (hKB : 0 ≤ KB) (T : Txt K mg cls) (D : At K mg "_law_alike" (top 22) ["found", "due"]) : Ca p w K mg base (cx K cls) (KB + 1) "_law_alike" 2 (fnF 1 (B_law_alike FD)) := by
  have S := @sc_law_alike
  refine ca_of (N := ["found", "due", "k"]) (ps := ["found", "due"]) (body := B_law_alike FD) D S rfl rfl fun f cdv A outer s H E gd hr => ?_
  unfold B_law_alike
  exact (s_cons (s_if (p_tst (p_blt cl_isi v_isi rfl T.isinstance bb_isinstance (pr_cons (p_var 1) (pr_cons (p_tup (pr_cons (p_ty rfl T.tuple bb_tuple) (pr_cons (p_ty rfl T.list bb_list) pr_nil))) pr_nil)))) (s_cons (s_if (t_w (w_or (p_not (p_tst (p_blt cl_isi v_isi rfl T.isinstance bb_isinstance (pr_cons (p_var 0) (pr_cons (p_tup (pr_cons (p_ty rfl T.tuple bb_tuple) (pr_cons (p_ty rfl T.list bb_list) pr_nil))) pr_nil))))) (w_or1 (p_tcmp (op_neD (hu64 hr)) v_ne (p_blt cl_isi v_isi rfl T.isinstance bb_isinstance (pr_cons (p_var 0) (pr_cons (p_ty rfl T.list bb_list) pr_nil))) (p_blt cl_isi v_isi rfl T.isinstance bb_isinstance (pr_cons (p_var 1) (pr_cons (p_ty rfl T.list bb_list) pr_nil))) rfl)))) (s_one (s_ret p_bl)) s_nil)
  (s_cons (s_if (p_tcmp (op_neD (hu64 hr)) v_ne (p_blt cl_len v_len rfl T.len bb_len (pr_cons (p_var 0) pr_nil)) (p_blt cl_len v_len rfl T.len bb_len (pr_cons (p_var 1) pr_nil)) rfl) (s_one (s_ret p_bl)) s_nil)
  (s_one (s_ret (p_cmp (op_eqD (hu64 hr)) v_eq (p_lc (own := [("k", 2)]) (by decide) rfl S.nd (i_range1 rfl T.range (pr_cons (p_blt cl_len v_len rfl T.len bb_len (pr_cons (p_var 1) pr_nil)) pr_nil)) (blkOk_by (N := ["found", "due", "k"]) (sc := defScope (top 22)) (own := [("k", 2)]) (by decide +kernel)) (fun _ _ _ _ _ => (g_name S.nd rfl (.inl rfl) (i := 2))) (fun _ _ _ _ _ => (t_one (p_not (p_tst (p_ca C_law_alike (by omega) gd hr L2.takes0 rfl (pr_cons (p_ix ix_seq v_ix (p_var 0) (p_var 2) (fun _ _ => rfl)) (pr_cons (p_ix ix_seq v_ix (p_var 1) (p_var 2) (fun _ _ => rfl)) pr_nil)) (len_cons (len_cons len_nil))))))) (fun _ _ _ _ _ => (p_take (p_var 2)))) (p_lst pr_nil) rfl))))) s_nil)
  (s_cons (s_if (t_w (w_or (p_tcmp op_isN v_isN (p_var 1) p_non rfl) (w_or1 (p_tst (p_blt cl_isi v_isi rfl T.isinstance bb_isinstance (pr_cons (p_var 1) (pr_cons (p_ty rfl T.str_ bb_str) pr_nil))))))) (s_one (s_ret (v_and (p_cmp (op_eqD (hu64 hr)) v_eq (p_var 0) (p_var 1) rfl) (v_one (p_cmp (op_eqD (hu64 hr)) v_eq (p_blt cl_isi v_isi rfl T.isinstance bb_isinstance (pr_cons (p_var 0) (pr_cons (p_ty rfl T.str_ bb_str) pr_nil))) (p_blt cl_isi v_isi rfl T.isinstance bb_isinstance (pr_cons (p_var 1) (pr_cons (p_ty rfl T.str_ bb_str) pr_nil))) rfl))))) s_nil)
  (s_one (s_ret (v_and (p_blt cl_isi v_isi rfl T.isinstance bb_isinstance (pr_cons (p_var 0) (pr_cons (p_ty rfl T.int_ bb_int) pr_nil))) (v_and (p_cmp (op_eqD (hu64 hr)) v_eq (p_blt cl_isi v_isi rfl T.isinstance bb_isinstance (pr_cons (p_var 0) (pr_cons (p_ty rfl T.bool_ bb_bool) pr_nil))) (p_blt cl_isi v_isi rfl T.isinstance bb_isinstance (pr_cons (p_var 1) (pr_cons (p_ty rfl T.bool_ bb_bool) pr_nil))) rfl) (v_one (p_cmp (op_eqD (hu64 hr)) v_eq (p_var 0) (p_var 1) rfl))))))))
theorem ok_law_alike (T : Txt K mg cls) (D : At K mg "_law_alike" (top 22) ["found", "due"]) : ∀ d, Ca p w K mg base (cx K cls) (0 + d) "_law_alike" 2 (F_law_alike d)
  | 0 => ca_bad D
  | d + 1 => ok_law_alike_at (ok_law_alike T D d) (by omega) T D

end
end PV

set_option maxHeartbeats 4000000
namespace PV
open PySem PySem.Spec L2 PyProof.Rows
section
variable {p : Program} {w : World} {K : PySem.W.Frag} {mg : Str → Option Value} {base : Heap} {cls : Nat → Addr}
theorem scis_row : FnScope ["value"] ["value"] (defScope (top 5)) := ⟨rfl, rfl, rfl, by decide +kernel, rfl, by decide +kernel, by decide +kernel⟩
theorem okis_row (T : Txt K mg cls) (D : At K mg "is_row" (top 5) ["value"]) : Ca p w K mg base (cx K cls) 1 "is_row" 1 Fis_row := by
  have S := @scis_row
  unfold Fis_row
  refine ca_of (N := ["value"]) (ps := ["value"]) (body := Bis_row) D S rfl rfl fun f cdv A outer s H E gd hr => ?_
  unfold Bis_row
  exact (s_one (s_ret (p_blt cl_isi v_isi rfl T.isinstance bb_isinstance (pr_cons (p_var 0) (pr_cons (p_tup (pr_cons (p_ty rfl T.list bb_list) (pr_cons (p_ty rfl T.tuple bb_tuple) pr_nil))) pr_nil)))))

end
end PV

set_option maxHeartbeats 4000000
namespace PV
open PySem PySem.Spec L2 PyProof.Rows
section
variable {p : Program} {w : World} {K : PySem.W.Frag} {mg : Str → Option Value} {base : Heap} {cls : Nat → Addr}
theorem scis_whole : FnScope ["value"] ["value"] (defScope (top 4)) := ⟨rfl, rfl, rfl, by decide +kernel, rfl, by decide +kernel, by decide +kernel⟩
theorem okis_whole (T : Txt K mg cls) (D : At K mg "is_whole" (top 4) ["value"]) : Ca p w K mg base (cx K cls) 1 "is_whole" 1 Fis_whole := by
  have S := @scis_whole
  unfold Fis_whole
  refine ca_of (N := ["value"]) (ps := ["value"]) (body := Bis_whole) D S rfl rfl fun f cdv A outer s H E gd hr => ?_
  unfold Bis_whole
  exact (s_one (s_ret (v_and (p_blt cl_isi v_isi rfl T.isinstance bb_isinstance (pr_cons (p_var 0) (pr_cons (p_ty rfl T.int_ bb_int) pr_nil))) (v_one (v_not (p_blt cl_isi v_isi rfl T.isinstance bb_isinstance (pr_cons (p_var 0) (pr_cons (p_ty rfl T.bool_ bb_bool) pr_nil))))))))

end
end PV

set_option maxHeartbeats 4000000
namespace PV
open PySem PySem.Spec L2 PyProof.Rows
section
variable {p : Program} {w : World} {K : PySem.W.Frag} {mg : Str → Option Value} {base : Heap} {cls : Nat → Addr}
theorem scis_fraction : FnScope ["value"] ["value"] (defScope (top 8)) := ⟨rfl, rfl, rfl, by decide +kernel, rfl, by decide +kernel, by decide +kernel⟩
theorem okis_fraction (T : Txt K mg cls) (D : At K mg "is_fraction" (top 8) ["value"]) (Cis_row : Ca p w K mg base (cx K cls) 1 "is_row" 1 (Fis_row)) (Cis_whole : Ca p w K mg base (cx K cls) 1 "is_whole" 1 (Fis_whole)) (Creduced : Ca p w K mg base (cx K cls) 1 "reduced" 2 (Freduced)) : Ca p w K mg base (cx K cls) 2 "is_fraction" 1 Fis_fraction := by
  have S := @scis_fraction
  unfold Fis_fraction
  refine ca_of (N := ["value"]) (ps := ["value"]) (body := Bis_fraction) D S rfl rfl fun f cdv A outer s H E gd hr => ?_
  unfold Bis_fraction
  exact (s_cons (s_if (t_w (w_or (p_not (p_tst (p_ca Cis_row (by omega) gd hr (takes_of rfl rfl rfl rfl) rfl (pr_cons (p_val (p_take (p_var 0))) pr_nil) (len_cons len_nil)))) (w_or (p_tcmp (op_neD (hu64 hr)) v_ne (p_blt cl_len v_len rfl T.len bb_len (pr_cons (p_var 0) pr_nil)) p_int rfl) (w_or (p_not (p_tst (p_ca Cis_whole (by omega) gd hr (takes_of rfl rfl rfl rfl) rfl (pr_cons (p_ix ix_seq v_ix (p_var 0) p_int (fun _ _ => rfl)) pr_nil) (len_cons len_nil)))) (w_or (p_not (p_tst (p_ca Cis_whole (by omega) gd hr (takes_of rfl rfl rfl rfl) rfl (pr_cons (p_ix ix_seq v_ix (p_var 0) p_int (fun _ _ => rfl)) pr_nil) (len_cons len_nil)))) (w_or1 (p_tcmp op_lt v_cmp (p_ix ix_seq v_ix (p_var 0) p_int (fun _ _ => rfl)) p_int rfl))))))) (s_one (s_ret p_bl)) s_nil)
  (s_one (s_ret (p_cmp (op_eqD (hu64 hr)) v_eq (p_ca Creduced (by omega) gd hr (takes_of rfl rfl rfl rfl) rfl (pr_cons (p_ix ix_seq v_ix (p_var 0) p_int (fun _ _ => rfl)) (pr_cons (p_ix ix_seq v_ix (p_var 0) p_int (fun _ _ => rfl)) pr_nil)) (len_cons (len_cons len_nil))) (p_tup (pr_cons (p_ix ix_seq v_ix (p_var 0) p_int (fun _ _ => rfl)) (pr_cons (p_ix ix_seq v_ix (p_var 0) p_int (fun _ _ => rfl)) pr_nil))) rfl))))

end
end PV

set_option maxHeartbeats 4000000
namespace PV
open PySem PySem.Spec L2 PyProof.Rows
section
variable {p : Program} {w : World} {K : PySem.W.Frag} {mg : Str → Option Value} {base : Heap} {cls : Nat → Addr}
theorem sc_law_low : FnScope ["top", "bottom", "here", "one"] ["top", "bottom"] (defScope (top 24)) := ⟨rfl, rfl, rfl, by decide +kernel, rfl, by decide +kernel, by decide +kernel⟩
theorem ok_law_low (T : Txt K mg cls) (D : At K mg "_law_low" (top 24) ["top", "bottom"]) : Ca p w K mg base (cx K cls) 1 "_law_low" 2 F_law_low := by
  have S := @sc_law_low
  unfold F_law_low
  refine ca_of (N := ["top", "bottom", "here", "one"]) (ps := ["top", "bottom"]) (body := B_law_low) D S rfl rfl fun f cdv A outer s H E gd hr => ?_
  unfold B_law_low
  exact (s_cons (s_set S.nd (i := 2) rfl (.inl rfl) p_int)
  (s_cons (s_for (passes_of rfl) rfl (i_range2 rfl T.range (pr_cons p_int (pr_cons (p_bin op_add4 v_add (p_bty call_int1 v_int rfl T.int_ bb_int (pr_cons (p_var 1) pr_nil)) p_int) pr_nil))) (g_name S.nd rfl (.inl rfl) (i := 3)) (s_one (s_if (t_w (w_and (p_tcmp (op_eqD (hu64 hr)) v_eq (p_bin op_mod v_mod (p_bty call_int1 v_int rfl T.int_ bb_int (pr_cons (p_var 0) pr_nil)) (p_var 3)) p_int rfl) (w_and1 (p_tcmp (op_eqD (hu64 hr)) v_eq (p_bin op_mod v_mod (p_bty call_int1 v_int rfl T.int_ bb_int (pr_cons (p_var 1) pr_nil)) (p_var 3)) p_int rfl)))) (s_one (s_set S.nd (i := 2) rfl (.inl rfl) (p_val (p_take (p_var 3))))) s_nil)))
  (s_one (s_ret (p_tup (pr_cons (p_val (p_take (p_bin op_fdivW v_fdiv (p_bty call_int1 v_int rfl T.int_ bb_int (pr_cons (p_var 0) pr_nil)) (p_var 2)))) (pr_cons (p_val (p_take (p_bin op_fdivW v_fdiv (p_bty call_int1 v_int rfl T.int_ bb_int (pr_cons (p_var 1) pr_nil)) (p_var 2)))) pr_nil)))))))

end
end PV

set_option maxHeartbeats 4000000
namespace PV
open PySem PySem.Spec L2 PyProof.Rows
section
variable {p : Program} {w : World} {K : PySem.W.Frag} {mg : Str → Option Value} {base : Heap} {cls : Nat → Addr}
theorem scwant_fraction : FnScope ["value"] ["value"] (defScope (top 9)) := ⟨rfl, rfl, rfl, by decide +kernel, rfl, by decide +kernel, by decide +kernel⟩
theorem okwant_fraction (T : Txt K mg cls) (D : At K mg "want_fraction" (top 9) ["value"]) (Cis_fraction : Ca p w K mg base (cx K cls) 2 "is_fraction" 1 (Fis_fraction)) (EBadNumber : ExK p w K mg base (cx K cls) 1 1 1 "BadNumber" ["self", "value"]) : Ca p w K mg base (cx K cls) 3 "want_fraction" 1 Fwant_fraction := by
  have S := @scwant_fraction
  unfold Fwant_fraction
  refine ca_of (N := ["value"]) (ps := ["value"]) (body := Bwant_fraction) D S rfl rfl fun f cdv A outer s H E gd hr => ?_
  unfold Bwant_fraction
  exact (s_cons (s_if (p_not (p_tst (p_ca Cis_fraction (by omega) gd hr (takes_of rfl rfl rfl rfl) rfl (pr_cons (p_val (p_take (p_var 0))) pr_nil) (len_cons len_nil)))) (s_one (s_raise rfl (takes_of rfl rfl rfl rfl) EBadNumber (hr.mono (by omega)) rfl (pr_cons (p_val (p_take (p_var 0))) pr_nil))) s_nil)
  (s_one (s_ret (p_bty call_tuple_of v_tuple rfl T.tuple bb_tuple (pr_cons (p_var 0) pr_nil)))))

end
end PV

set_option maxHeartbeats 4000000
namespace PV
open PySem PySem.Spec L2 PyProof.Rows
section
variable {p : Program} {w : World} {K : PySem.W.Frag} {mg : Str → Option Value} {base : Heap} {cls : Nat → Addr}
theorem sc_law_taken : FnScope ["row", "many", "cell", "found"] ["row", "many"] (defScope (top 21)) := ⟨rfl, rfl, rfl, by decide +kernel, rfl, by decide +kernel, by decide +kernel⟩
theorem ok_law_taken (T : Txt K mg cls) (D : At K mg "_law_taken" (top 21) ["row", "many"]) : Ca p w K mg base (cx K cls) 1 "_law_taken" 2 F_law_taken := by
  have S := @sc_law_taken
  unfold F_law_taken
  refine ca_of (N := ["row", "many", "cell", "found"]) (ps := ["row", "many"]) (body := B_law_taken) D S rfl rfl fun f cdv A outer s H E gd hr => ?_
  unfold B_law_taken
  exact (s_cons (s_if (p_tcmp op_gt v_cmp (p_ix ix_seq v_ix (p_var 0) p_int (fun _ _ => rfl)) p_int rfl) (s_cons (s_set S.nd (i := 3) rfl (.inl rfl) (p_bin op_mod v_mod (p_bty call_int1 v_int rfl T.int_ bb_int (pr_cons (p_ix ix_seq v_ix (p_var 0) p_int (fun _ _ => rfl)) pr_nil)) (p_var 1)))
  (s_cons (s_st (p_var 0) p_int (p_take (p_bin op_fdivW v_fdiv (p_ix ix_seq v_ix (p_var 0) p_int (fun _ _ => rfl)) (p_var 1))))
  (s_one (s_ret (p_var 3))))) s_nil)
  (s_cons (s_st (p_var 0) p_int (p_take (p_bin op_add4 v_add (p_ix ix_seq v_ix (p_var 0) p_int (fun _ _ => rfl)) p_int)))
  (s_cons (s_if (p_tcmp op_gt v_cmp (p_ix ix_seq v_ix (p_var 0) p_int (fun _ _ => rfl)) (p_blt cl_len v_len rfl T.len bb_len (pr_cons (p_ix ix_seq v_ix (p_var 0) p_int (fun _ _ => rfl)) pr_nil)) rfl) (s_cons (s_st (p_var 0) p_int (p_take (p_bin op_mod v_mod (p_bty call_int1 v_int rfl T.int_ bb_int (pr_cons (p_bin op_add4 v_add (p_bin op_mul3 v_mul (p_ix ix_seq v_ix (p_var 0) p_int (fun _ _ => rfl)) p_int) p_int) pr_nil)) p_int)))
  (s_one (s_ret (p_bin op_mod v_mod (p_bty call_int1 v_int rfl T.int_ bb_int (pr_cons (p_bin op_fdivW v_fdiv (p_ix ix_seq v_ix (p_var 0) p_int (fun _ _ => rfl)) p_int) pr_nil)) (p_var 1))))) s_nil)
  (s_cons (s_set S.nd (i := 2) rfl (.inl rfl) (p_ix ix_seq v_ix (p_ix ix_seq v_ix (p_var 0) p_int (fun _ _ => rfl)) (p_bin op_sub v_sub (p_ix ix_seq v_ix (p_var 0) p_int (fun _ _ => rfl)) p_int) (fun _ _ => rfl)))
  (s_cons (s_st (p_var 0) p_int (p_take (p_bin op_mod v_mod (p_bty call_int1 v_int rfl T.int_ bb_int (pr_cons (p_bin op_add4 v_add (p_bin op_add4 v_add (p_bin op_mul3 v_mul (p_ix ix_seq v_ix (p_var 0) p_int (fun _ _ => rfl)) p_int) (p_var 2)) p_int) pr_nil)) p_int)))
  (s_cons (s_if (p_tcmp op_ge v_cmp (p_var 2) (p_bin op_pow v_pow p_int p_int) rfl) (s_one (s_st (p_var 0) p_int (p_take (p_bin op_fdivW v_fdiv (p_var 2) (p_var 1))))) s_nil)
  (s_one (s_ret (p_bin op_mod v_mod (p_bty call_int1 v_int rfl T.int_ bb_int (pr_cons (p_var 2) pr_nil)) (p_var 1))))))))))

end
end PV

set_option maxHeartbeats 4000000
namespace PV
open PySem PySem.Spec L2 PyProof.Rows
section
variable {p : Program} {w : World} {K : PySem.W.Frag} {mg : Str → Option Value} {base : Heap} {cls : Nat → Addr}
theorem sc_law_truth : FnScope ["found", "due"] ["found", "due"] (defScope (top 23)) := ⟨rfl, rfl, rfl, by decide +kernel, rfl, by decide +kernel, by decide +kernel⟩
theorem ok_law_truth (T : Txt K mg cls) (D : At K mg "_law_truth" (top 23) ["found", "due"]) : Ca p w K mg base (cx K cls) 1 "_law_truth" 2 F_law_truth := by
  have S := @sc_law_truth
  unfold F_law_truth
  refine ca_of (N := ["found", "due"]) (ps := ["found", "due"]) (body := B_law_truth) D S rfl rfl fun f cdv A outer s H E gd hr => ?_
  unfold B_law_truth
  exact (s_one (s_ret (v_and (p_blt cl_isi v_isi rfl T.isinstance bb_isinstance (pr_cons (p_var 0) (pr_cons (p_ty rfl T.bool_ bb_bool) pr_nil))) (v_one (p_cmp (op_eqD (hu64 hr)) v_eq (p_var 0) (p_var 1) rfl)))))

end
end PV

set_option maxHeartbeats 4000000
namespace PV
open PySem PySem.Spec L2 PyProof.Rows
section
variable {p : Program} {w : World} {K : PySem.W.Frag} {mg : Str → Option Value} {base : Heap} {cls : Nat → Addr}
theorem sctotal : FnScope ["rows", "found", "one"] ["rows"] (defScope (top 18)) := ⟨rfl, rfl, rfl, by decide +kernel, rfl, by decide +kernel, by decide +kernel⟩
theorem oktotal (T : Txt K mg cls) (D : At K mg "total" (top 18) ["rows"]) (Cplus : Ca p w K mg base (cx K cls) 2 "plus" 2 (Fplus)) : Ca p w K mg base (cx K cls) 3 "total" 1 Ftotal := by
  have S := @sctotal
  unfold Ftotal
  refine ca_of (N := ["rows", "found", "one"]) (ps := ["rows"]) (body := Btotal) D S rfl rfl fun f cdv A outer s H E gd hr => ?_
  unfold Btotal
  exact (s_cons (s_set S.nd (i := 1) rfl (.inl rfl) (p_tup (pr_cons p_int (pr_cons p_int pr_nil))))
  (s_cons (s_for (passes_of rfl) rfl (i_seq rfl (p_take (p_var 0))) (g_name S.nd rfl (.inl rfl) (i := 2)) (s_one (s_set S.nd (i := 1) rfl (.inl rfl) (p_ca Cplus (by omega) gd hr (takes_of rfl rfl rfl rfl) rfl (pr_cons (p_val (p_take (p_var 1))) (pr_cons (p_val (p_take (p_var 2))) pr_nil)) (len_cons (len_cons len_nil))))))
  (s_one (s_ret (p_var 1)))))

end
end PV

set_option maxHeartbeats 4000000
namespace PV
open PySem PySem.Spec L2 PyProof.Rows
section
variable {p : Program} {w : World} {K : PySem.W.Frag} {mg : Str → Option Value} {base : Heap} {cls : Nat → Addr}
theorem scminus : FnScope ["one", "other"] ["one", "other"] (defScope (top 11)) := ⟨rfl, rfl, rfl, by decide +kernel, rfl, by decide +kernel, by decide +kernel⟩
theorem okminus (T : Txt K mg cls) (D : At K mg "minus" (top 11) ["one", "other"]) (Creduced : Ca p w K mg base (cx K cls) 1 "reduced" 2 (Freduced)) : Ca p w K mg base (cx K cls) 2 "minus" 2 Fminus := by
  have S := @scminus
  unfold Fminus
  refine ca_of (N := ["one", "other"]) (ps := ["one", "other"]) (body := Bminus) D S rfl rfl fun f cdv A outer s H E gd hr => ?_
  unfold Bminus
  exact (s_one (s_ret (p_ca Creduced (by omega) gd hr (takes_of rfl rfl rfl rfl) rfl (pr_cons (p_val (p_take (p_bin op_sub v_sub (p_bin op_mul3 v_mul (p_ix ix_seq v_ix (p_var 0) p_int (fun _ _ => rfl)) (p_ix ix_seq v_ix (p_var 1) p_int (fun _ _ => rfl))) (p_bin op_mul3 v_mul (p_ix ix_seq v_ix (p_var 1) p_int (fun _ _ => rfl)) (p_ix ix_seq v_ix (p_var 0) p_int (fun _ _ => rfl)))))) (pr_cons (p_val (p_take (p_bin op_mul3 v_mul (p_ix ix_seq v_ix (p_var 0) p_int (fun _ _ => rfl)) (p_ix ix_seq v_ix (p_var 1) p_int (fun _ _ => rfl))))) pr_nil)) (len_cons (len_cons len_nil)))))

end
end PV

set_option maxHeartbeats 4000000
namespace PV
open PySem PySem.Spec L2 PyProof.Rows
section
variable {p : Program} {w : World} {K : PySem.W.Frag} {mg : Str → Option Value} {base : Heap} {cls : Nat → Addr}
theorem scfloor_of : FnScope ["one"] ["one"] (defScope (top 15)) := ⟨rfl, rfl, rfl, by decide +kernel, rfl, by decide +kernel, by decide +kernel⟩
theorem okfloor_of (T : Txt K mg cls) (D : At K mg "floor_of" (top 15) ["one"]) : Ca p w K mg base (cx K cls) 1 "floor_of" 1 Ffloor_of := by
  have S := @scfloor_of
  unfold Ffloor_of
  refine ca_of (N := ["one"]) (ps := ["one"]) (body := Bfloor_of) D S rfl rfl fun f cdv A outer s H E gd hr => ?_
  unfold Bfloor_of
  exact (s_one (s_ret (p_bin op_fdivW v_fdiv (p_ix ix_seq v_ix (p_var 0) p_int (fun _ _ => rfl)) (p_ix ix_seq v_ix (p_var 0) p_int (fun _ _ => rfl)))))

end
end PV

set_option maxHeartbeats 4000000
namespace PV
open PySem PySem.Spec L2 PyProof.Rows
section
variable {p : Program} {w : World} {K : PySem.W.Frag} {mg : Str → Option Value} {base : Heap} {cls : Nat → Addr}
theorem scceiling_of : FnScope ["one"] ["one"] (defScope (top 16)) := ⟨rfl, rfl, rfl, by decide +kernel, rfl, by decide +kernel, by decide +kernel⟩
theorem okceiling_of (T : Txt K mg cls) (D : At K mg "ceiling_of" (top 16) ["one"]) : Ca p w K mg base (cx K cls) 1 "ceiling_of" 1 Fceiling_of := by
  have S := @scceiling_of
  unfold Fceiling_of
  refine ca_of (N := ["one"]) (ps := ["one"]) (body := Bceiling_of) D S rfl rfl fun f cdv A outer s H E gd hr => ?_
  unfold Bceiling_of
  exact (s_one (s_ret (p_un un_neg v_neg (p_bin op_fdivW v_fdiv (p_un un_neg v_neg (p_ix ix_seq v_ix (p_var 0) p_int (fun _ _ => rfl))) (p_ix ix_seq v_ix (p_var 0) p_int (fun _ _ => rfl))))))

end
end PV

set_option maxHeartbeats 4000000
namespace PV
open PySem PySem.Spec L2 PyProof.Rows
section
variable {p : Program} {w : World} {K : PySem.W.Frag} {mg : Str → Option Value} {base : Heap} {cls : Nat → Addr}
theorem scnearest : FnScope ["one"] ["one"] (defScope (top 17)) := ⟨rfl, rfl, rfl, by decide +kernel, rfl, by decide +kernel, by decide +kernel⟩
theorem oknearest (T : Txt K mg cls) (D : At K mg "nearest" (top 17) ["one"]) : Ca p w K mg base (cx K cls) 1 "nearest" 1 Fnearest := by
  have S := @scnearest
  unfold Fnearest
  refine ca_of (N := ["one"]) (ps := ["one"]) (body := Bnearest) D S rfl rfl fun f cdv A outer s H E gd hr => ?_
  unfold Bnearest
  exact (s_one (s_ret (p_bin op_fdivW v_fdiv (p_bin op_add4 v_add (p_bin op_mul3 v_mul p_int (p_ix ix_seq v_ix (p_var 0) p_int (fun _ _ => rfl))) (p_ix ix_seq v_ix (p_var 0) p_int (fun _ _ => rfl))) (p_bin op_mul3 v_mul p_int (p_ix ix_seq v_ix (p_var 0) p_int (fun _ _ => rfl))))))

end
end PV

set_option maxHeartbeats 4000000
namespace PV
open PySem PySem.Spec L2 PyProof.Rows
section
variable {p : Program} {w : World} {K : PySem.W.Frag} {mg : Str → Option Value} {base : Heap} {cls : Nat → Addr}
theorem scover : FnScope ["one", "other"] ["one", "other"] (defScope (top 13)) := ⟨rfl, rfl, rfl, by decide +kernel, rfl, by decide +kernel, by decide +kernel⟩
theorem okover (T : Txt K mg cls) (D : At K mg "over" (top 13) ["one", "other"]) (Creduced : Ca p w K mg base (cx K cls) 1 "reduced" 2 (Freduced)) : Ca p w K mg base (cx K cls) 2 "over" 2 Fover := by
  have S := @scover
  unfold Fover
  refine ca_of (N := ["one", "other"]) (ps := ["one", "other"]) (body := Bover) D S rfl rfl fun f cdv A outer s H E gd hr => ?_
  unfold Bover
  exact (s_one (s_ret (p_ca Creduced (by omega) gd hr (takes_of rfl rfl rfl rfl) rfl (pr_cons (p_val (p_take (p_bin op_mul3 v_mul (p_ix ix_seq v_ix (p_var 0) p_int (fun _ _ => rfl)) (p_ix ix_seq v_ix (p_var 1) p_int (fun _ _ => rfl))))) (pr_cons (p_val (p_take (p_bin op_mul3 v_mul (p_ix ix_seq v_ix (p_var 0) p_int (fun _ _ => rfl)) (p_ix ix_seq v_ix (p_var 1) p_int (fun _ _ => rfl))))) pr_nil)) (len_cons (len_cons len_nil)))))

end
end PV

set_option maxHeartbeats 4000000
namespace PV
open PySem PySem.Spec L2 PyProof.Rows
section
variable {p : Program} {w : World} {K : PySem.W.Frag} {mg : Str → Option Value} {base : Heap} {cls : Nat → Addr}
theorem sclaw : FnScope ["script", "row", "wholes", "best", "part", "middle", "below", "above", "value", "a", "b", "c", "d", "one", "other", "rows", "whole", "e", "k"] ["script"] (defScope (top 25)) := ⟨rfl, rfl, rfl, by decide +kernel, rfl, by decide +kernel, by decide +kernel⟩
theorem oklaw (T : Txt K mg cls) {f : Addr} {fd : FuncData} (D : Fun K "law" "law" (top 25) f fd) (C_law_taken : Ca p w K mg base (cx K cls) 1 "_law_taken" 2 (F_law_taken)) (Creduced : Ca p w K mg base (cx K cls) 1 "reduced" 2 (Freduced)) (C_law_low : Ca p w K mg base (cx K cls) 1 "_law_low" 2 (F_law_low)) (C_law_alike : Ca p w K mg base (cx K cls) 5 "_law_alike" 2 (F_law_alike 5)) (Cis_fraction : Ca p w K mg base (cx K cls) 2 "is_fraction" 1 (Fis_fraction)) (Cplus : Ca p w K mg base (cx K cls) 2 "plus" 2 (Fplus)) (Cminus : Ca p w K mg base (cx K cls) 2 "minus" 2 (Fminus)) (Ctimes : Ca p w K mg base (cx K cls) 2 "times" 2 (Ftimes)) (Cover : Ca p w K mg base (cx K cls) 2 "over" 2 (Fover)) (Cis_less : Ca p w K mg base (cx K cls) 1 "is_less" 2 (Fis_less)) (C_law_truth : Ca p w K mg base (cx K cls) 1 "_law_truth" 2 (F_law_truth)) (Cfloor_of : Ca p w K mg base (cx K cls) 1 "floor_of" 1 (Ffloor_of)) (Cceiling_of : Ca p w K mg base (cx K cls) 1 "ceiling_of" 1 (Fceiling_of)) (Cnearest : Ca p w K mg base (cx K cls) 1 "nearest" 1 (Fnearest)) (Ctotal : Ca p w K mg base (cx K cls) 3 "total" 1 (Ftotal)) (Cmedian : Ca p w K mg base (cx K cls) 3 "median" 1 (Fmedian)) (Cwant_fraction : Ca p w K mg base (cx K cls) 3 "want_fraction" 1 (Fwant_fraction)) : FnG p w K mg base 6 f fd ["script"] (spF (cx K cls) 1 Flaw) := by
  have S := @sclaw
  unfold Flaw
  refine fnG_by (N := ["script", "row", "wholes", "best", "part", "middle", "below", "above", "value", "a", "b", "c", "d", "one", "other", "rows", "whole", "e", "k"]) (ps := ["script"]) (body := Blaw) D S rfl rfl fun cdv A outer s H E gd hr => ?_
  unfold Blaw Slaw1 Slaw2 Slaw3 Slaw4 Slaw5 Slaw6 Slaw7 Slaw8 Slaw9 Slaw10 Slaw11 Slaw12 Slaw13 Slaw14 Slaw15 Slaw16 Slaw17 Slaw18 Slaw19
  exact (s_cons (s_set S.nd (i := 1) rfl (.inr rfl) (p_lst (pr_cons (p_val (p_take (p_var 0))) (pr_cons p_int (pr_cons p_int (pr_cons p_int pr_nil))))))
  (s_cons (s_asg (p_take (p_tup (pr_cons (p_val (p_take (p_bin op_sub v_sub (p_ca C_law_taken (by omega) gd hr (takes_of rfl rfl rfl rfl) rfl (pr_cons (p_var 1) (pr_cons p_int pr_nil)) (len_cons (len_cons len_nil))) p_int))) (pr_cons (p_val (p_take (p_bin op_add4 v_add p_int (p_ca C_law_taken (by omega) gd hr (takes_of rfl rfl rfl rfl) rfl (pr_cons (p_var 1) (pr_cons p_int pr_nil)) (len_cons (len_cons len_nil)))))) (pr_cons (p_val (p_take (p_bin op_sub v_sub (p_ca C_law_taken (by omega) gd hr (takes_of rfl rfl rfl rfl) rfl (pr_cons (p_var 1) (pr_cons p_int pr_nil)) (len_cons (len_cons len_nil))) p_int))) (pr_cons (p_val (p_take (p_bin op_add4 v_add p_int (p_ca C_law_taken (by omega) gd hr (takes_of rfl rfl rfl rfl) rfl (pr_cons (p_var 1) (pr_cons p_int pr_nil)) (len_cons (len_cons len_nil)))))) pr_nil)))))) (g_tup rfl rfl (gs_cons (g_name S.nd rfl (.inr rfl) (i := 9)) (gs_cons (g_name S.nd rfl (.inr rfl) (i := 10)) (gs_cons (g_name S.nd rfl (.inl rfl) (i := 11)) (gs_cons (g_name S.nd rfl (.inl rfl) (i := 12)) gs_nil)))) (ar_cons (ar_cons (ar_cons (ar_cons ar_nil))))))
  (s_cons (s_par rfl S.nd (i := 13) (j := 14) rfl rfl (by decide) rfl rfl (p_ca Creduced (by omega) gd hr (takes_of rfl rfl rfl rfl) rfl (pr_cons (p_val (p_take (p_var 9))) (pr_cons (p_val (p_take (p_var 10))) pr_nil)) (len_cons (len_cons len_nil))) (p_ca Creduced (by omega) gd hr (takes_of rfl rfl rfl rfl) rfl (pr_cons (p_val (p_take (p_var 11))) (pr_cons (p_val (p_take (p_var 12))) pr_nil)) (len_cons (len_cons len_nil))) rfl)
  (s_cons (s_if (t_w (w_or (p_not (p_tst (p_ca C_law_alike (by omega) gd hr (takes_of rfl rfl rfl rfl) rfl (pr_cons (p_tup (pr_cons (p_val (p_take (p_var 13))) (pr_cons (p_val (p_take (p_var 14))) pr_nil))) (pr_cons (p_tup (pr_cons (p_val (p_take (p_ca C_law_low (by omega) gd hr (takes_of rfl rfl rfl rfl) rfl (pr_cons (p_val (p_take (p_var 9))) (pr_cons (p_val (p_take (p_var 10))) pr_nil)) (len_cons (len_cons len_nil))))) (pr_cons (p_val (p_take (p_ca C_law_low (by omega) gd hr (takes_of rfl rfl rfl rfl) rfl (pr_cons (p_val (p_take (p_var 11))) (pr_cons (p_val (p_take (p_var 12))) pr_nil)) (len_cons (len_cons len_nil))))) pr_nil))) pr_nil)) (len_cons (len_cons len_nil))))) (w_or (p_not (p_tst (p_ca Cis_fraction (by omega) gd hr (takes_of rfl rfl rfl rfl) rfl (pr_cons (p_val (p_take (p_var 13))) pr_nil) (len_cons len_nil)))) (w_or1 (p_tst (p_ca Cis_fraction (by omega) gd hr (takes_of rfl rfl rfl rfl) rfl (pr_cons (p_tup (pr_cons (p_val (p_take (p_bin op_mul3 v_mul (p_var 9) p_int))) (pr_cons (p_val (p_take (p_bin op_mul3 v_mul (p_var 10) p_int))) pr_nil))) pr_nil) (len_cons len_nil))))))) (s_one (s_ret p_bl)) s_nil)
  (s_cons (s_if (p_not (p_tst (p_ca C_law_alike (by omega) gd hr (takes_of rfl rfl rfl rfl) rfl (pr_cons (p_tup (pr_cons (p_val (p_take (p_ca Cplus (by omega) gd hr (takes_of rfl rfl rfl rfl) rfl (pr_cons (p_val (p_take (p_var 13))) (pr_cons (p_val (p_take (p_var 14))) pr_nil)) (len_cons (len_cons len_nil))))) (pr_cons (p_val (p_take (p_ca Cminus (by omega) gd hr (takes_of rfl rfl rfl rfl) rfl (pr_cons (p_val (p_take (p_var 13))) (pr_cons (p_val (p_take (p_var 14))) pr_nil)) (len_cons (len_cons len_nil))))) (pr_cons (p_val (p_take (p_ca Ctimes (by omega) gd hr (takes_of rfl rfl rfl rfl) rfl (pr_cons (p_val (p_take (p_var 13))) (pr_cons (p_val (p_take (p_var 14))) pr_nil)) (len_cons (len_cons len_nil))))) pr_nil)))) (pr_cons (p_tup (pr_cons (p_val (p_take (p_ca C_law_low (by omega) gd hr (takes_of rfl rfl rfl rfl) rfl (pr_cons (p_val (p_take (p_bin op_add4 v_add (p_bin op_mul3 v_mul (p_var 9) (p_var 12)) (p_bin op_mul3 v_mul (p_var 11) (p_var 10))))) (pr_cons (p_val (p_take (p_bin op_mul3 v_mul (p_var 10) (p_var 12)))) pr_nil)) (len_cons (len_cons len_nil))))) (pr_cons (p_val (p_take (p_ca C_law_low (by omega) gd hr (takes_of rfl rfl rfl rfl) rfl (pr_cons (p_val (p_take (p_bin op_sub v_sub (p_bin op_mul3 v_mul (p_var 9) (p_var 12)) (p_bin op_mul3 v_mul (p_var 11) (p_var 10))))) (pr_cons (p_val (p_take (p_bin op_mul3 v_mul (p_var 10) (p_var 12)))) pr_nil)) (len_cons (len_cons len_nil))))) (pr_cons (p_val (p_take (p_ca C_law_low (by omega) gd hr (takes_of rfl rfl rfl rfl) rfl (pr_cons (p_val (p_take (p_bin op_mul3 v_mul (p_var 9) (p_var 11)))) (pr_cons (p_val (p_take (p_bin op_mul3 v_mul (p_var 10) (p_var 12)))) pr_nil)) (len_cons (len_cons len_nil))))) pr_nil)))) pr_nil)) (len_cons (len_cons len_nil))))) (s_one (s_ret p_bl)) s_nil)
  (s_cons (s_if (t_w (w_or (t_w (w_and (p_tcmp op_gt v_cmp (p_var 11) p_int rfl) (w_and1 (p_not (p_tst (p_ca C_law_alike (by omega) gd hr (takes_of rfl rfl rfl rfl) rfl (pr_cons (p_val (p_take (p_ca Cover (by omega) gd hr (takes_of rfl rfl rfl rfl) rfl (pr_cons (p_val (p_take (p_var 13))) (pr_cons (p_val (p_take (p_var 14))) pr_nil)) (len_cons (len_cons len_nil))))) (pr_cons (p_val (p_take (p_ca C_law_low (by omega) gd hr (takes_of rfl rfl rfl rfl) rfl (pr_cons (p_val (p_take (p_bin op_mul3 v_mul (p_var 9) (p_var 12)))) (pr_cons (p_val (p_take (p_bin op_mul3 v_mul (p_var 10) (p_var 11)))) pr_nil)) (len_cons (len_cons len_nil))))) pr_nil)) (len_cons (len_cons len_nil)))))))) (w_or1 (p_not (p_tst (p_ca C_law_truth (by omega) gd hr (takes_of rfl rfl rfl rfl) rfl (pr_cons (p_val (p_take (p_ca Cis_less (by omega) gd hr (takes_of rfl rfl rfl rfl) rfl (pr_cons (p_val (p_take (p_var 13))) (pr_cons (p_val (p_take (p_var 14))) pr_nil)) (len_cons (len_cons len_nil))))) (pr_cons (p_cmp op_lt v_cmp (p_bin op_mul3 v_mul (p_var 9) (p_var 12)) (p_bin op_mul3 v_mul (p_var 11) (p_var 10)) rfl) pr_nil)) (len_cons (len_cons len_nil)))))))) (s_one (s_ret p_bl)) s_nil)
  (s_cons (s_set S.nd (i := 2) rfl (.inl rfl) (p_listRg2 rfl rfl T.range rfl T.list (p_un un_neg v_neg p_int) p_int))
  (s_cons (s_par rfl S.nd (i := 6) (j := 7) rfl rfl (by decide) rfl rfl (p_blt (cr_max rfl) v_maxL rfl T.max bb_max (pr_cons (p_lc (own := [("k", 18)]) (by decide) rfl S.nd (i_seq rfl (p_take (p_var 2))) (blkOk_by (N := ["script", "row", "wholes", "best", "part", "middle", "below", "above", "value", "a", "b", "c", "d", "one", "other", "rows", "whole", "e", "k"]) (sc := defScope (top 25)) (own := [("k", 18)]) (by decide +kernel)) (fun _ _ _ _ _ => (g_name S.nd rfl (.inl rfl) (i := 18))) (fun _ _ _ _ _ => (t_one (p_tcmp op_le v_cmp (p_bin op_mul3 v_mul (p_var 18) (p_var 10)) (p_var 9) rfl))) (fun _ _ _ _ _ => (p_take (p_var 18)))) pr_nil)) (p_blt (cr_min rfl) v_minL rfl T.min bb_min (pr_cons (p_lc (own := [("k", 18)]) (by decide) rfl S.nd (i_seq rfl (p_take (p_var 2))) (blkOk_by (N := ["script", "row", "wholes", "best", "part", "middle", "below", "above", "value", "a", "b", "c", "d", "one", "other", "rows", "whole", "e", "k"]) (sc := defScope (top 25)) (own := [("k", 18)]) (by decide +kernel)) (fun _ _ _ _ _ => (g_name S.nd rfl (.inl rfl) (i := 18))) (fun _ _ _ _ _ => (t_one (p_tcmp op_ge v_cmp (p_bin op_mul3 v_mul (p_var 18) (p_var 10)) (p_var 9) rfl))) (fun _ _ _ _ _ => (p_take (p_var 18)))) pr_nil)) rfl)
  (s_cons (s_set S.nd (i := 3) rfl (.inl rfl) (p_blt (cr_max rfl) v_maxL rfl T.max bb_max (pr_cons (p_lc (own := [("k", 18)]) (by decide) rfl S.nd (i_seq rfl (p_take (p_var 2))) (blkOk_by (N := ["script", "row", "wholes", "best", "part", "middle", "below", "above", "value", "a", "b", "c", "d", "one", "other", "rows", "whole", "e", "k"]) (sc := defScope (top 25)) (own := [("k", 18)]) (by decide +kernel)) (fun _ _ _ _ _ => (g_name S.nd rfl (.inl rfl) (i := 18))) (fun _ _ _ _ _ => (t_one (p_tcmp op_le v_cmp (p_bin op_mul3 v_mul (p_bin op_sub v_sub (p_bin op_mul3 v_mul p_int (p_var 18)) p_int) (p_var 10)) (p_bin op_mul3 v_mul p_int (p_var 9)) rfl))) (fun _ _ _ _ _ => (p_take (p_var 18)))) pr_nil)))
  (s_cons (s_if (p_not (p_tst (p_ca C_law_alike (by omega) gd hr (takes_of rfl rfl rfl rfl) rfl (pr_cons (p_tup (pr_cons (p_val (p_take (p_ca Cfloor_of (by omega) gd hr (takes_of rfl rfl rfl rfl) rfl (pr_cons (p_val (p_take (p_var 13))) pr_nil) (len_cons len_nil)))) (pr_cons (p_val (p_take (p_ca Cceiling_of (by omega) gd hr (takes_of rfl rfl rfl rfl) rfl (pr_cons (p_val (p_take (p_var 13))) pr_nil) (len_cons len_nil)))) (pr_cons (p_val (p_take (p_ca Cnearest (by omega) gd hr (takes_of rfl rfl rfl rfl) rfl (pr_cons (p_val (p_take (p_var 13))) pr_nil) (len_cons len_nil)))) pr_nil)))) (pr_cons (p_tup (pr_cons (p_val (p_take (p_var 6))) (pr_cons (p_val (p_take (p_var 7))) (pr_cons (p_val (p_take (p_var 3))) pr_nil)))) pr_nil)) (len_cons (len_cons len_nil))))) (s_one (s_ret p_bl)) s_nil)
  (s_cons (s_par rfl S.nd (i := 15) (j := 16) rfl rfl (by decide) rfl rfl (p_bin op_add4 v_add (p_lst (pr_cons (p_val (p_take (p_var 13))) (pr_cons (p_val (p_take (p_var 14))) pr_nil))) (p_lc (own := [("k", 18)]) (by decide) rfl S.nd (i_range1 rfl T.range (pr_cons (p_ca C_law_taken (by omega) gd hr (takes_of rfl rfl rfl rfl) rfl (pr_cons (p_var 1) (pr_cons p_int pr_nil)) (len_cons (len_cons len_nil))) pr_nil)) (blkOk_by (N := ["script", "row", "wholes", "best", "part", "middle", "below", "above", "value", "a", "b", "c", "d", "one", "other", "rows", "whole", "e", "k"]) (sc := defScope (top 25)) (own := [("k", 18)]) (by decide +kernel)) (fun _ _ _ _ _ => (g_name S.nd rfl (.inl rfl) (i := 18))) (fun _ _ _ _ _ => t_yes) (fun _ _ _ _ _ => (p_take (p_ca Creduced (by omega) gd hr L2.takes0 rfl (pr_cons (p_val (p_take (p_bin op_sub v_sub (p_ca C_law_taken (by omega) gd hr L2.takes0 rfl (pr_cons (p_var 1) (pr_cons p_int pr_nil)) (len_cons (len_cons len_nil))) p_int))) (pr_cons (p_val (p_take (p_bin op_add4 v_add p_int (p_ca C_law_taken (by omega) gd hr L2.takes0 rfl (pr_cons (p_var 1) (pr_cons p_int pr_nil)) (len_cons (len_cons len_nil)))))) pr_nil)) (len_cons (len_cons len_nil))))))) (p_tup (pr_cons p_int (pr_cons p_int pr_nil))) rfl)
  (s_cons (s_for (passes_of rfl) rfl (i_seq rfl (p_take (p_var 15))) (g_name S.nd rfl (.inl rfl) (i := 4)) (s_one (s_set S.nd (i := 16) rfl (.inl rfl) (p_ca C_law_low (by omega) gd hr (takes_of rfl rfl rfl rfl) rfl (pr_cons (p_val (p_take (p_bin op_add4 v_add (p_bin op_mul3 v_mul (p_ix ix_seq v_ix (p_var 16) p_int (fun _ _ => rfl)) (p_ix ix_seq v_ix (p_var 4) p_int (fun _ _ => rfl))) (p_bin op_mul3 v_mul (p_ix ix_seq v_ix (p_var 4) p_int (fun _ _ => rfl)) (p_ix ix_seq v_ix (p_var 16) p_int (fun _ _ => rfl)))))) (pr_cons (p_val (p_take (p_bin op_mul3 v_mul (p_ix ix_seq v_ix (p_var 16) p_int (fun _ _ => rfl)) (p_ix ix_seq v_ix (p_var 4) p_int (fun _ _ => rfl))))) pr_nil)) (len_cons (len_cons len_nil))))))
  (s_cons (s_if (p_not (p_tst (p_ca C_law_alike (by omega) gd hr (takes_of rfl rfl rfl rfl) rfl (pr_cons (p_val (p_take (p_ca Ctotal (by omega) gd hr (takes_of rfl rfl rfl rfl) rfl (pr_cons (p_val (p_take (p_var 15))) pr_nil) (len_cons len_nil)))) (pr_cons (p_val (p_take (p_var 16))) pr_nil)) (len_cons (len_cons len_nil))))) (s_one (s_ret p_bl)) s_nil)
  (s_cons (s_set S.nd (i := 5) rfl (.inr rfl) (p_ca Cmedian (by omega) gd hr (takes_of rfl rfl rfl rfl) rfl (pr_cons (p_val (p_take (p_var 15))) pr_nil) (len_cons len_nil)))
  (s_cons (s_set S.nd (i := 6) rfl (.inl rfl) (p_blt cl_len v_len rfl T.len bb_len (pr_cons (p_lc (own := [("part", 4)]) (by decide) rfl S.nd (i_seq rfl (p_take (p_var 15))) (blkOk_by (N := ["script", "row", "wholes", "best", "part", "middle", "below", "above", "value", "a", "b", "c", "d", "one", "other", "rows", "whole", "e", "k"]) (sc := defScope (top 25)) (own := [("part", 4)]) (by decide +kernel)) (fun _ _ _ _ _ => (g_name S.nd rfl (.inl rfl) (i := 4))) (fun _ _ _ _ _ => (t_one (p_tcmp op_lt v_cmp (p_bin op_mul3 v_mul (p_ix ix_seq v_ix (p_var 4) p_int (fun _ _ => rfl)) (p_ix ix_seq v_ix (p_var 5) p_int (fun _ _ => rfl))) (p_bin op_mul3 v_mul (p_ix ix_seq v_ix (p_var 5) p_int (fun _ _ => rfl)) (p_ix ix_seq v_ix (p_var 4) p_int (fun _ _ => rfl))) rfl))) (fun _ _ _ _ _ => (p_take p_int))) pr_nil)))
  (s_cons (s_set S.nd (i := 7) rfl (.inl rfl) (p_blt cl_len v_len rfl T.len bb_len (pr_cons (p_lc (own := [("part", 4)]) (by decide) rfl S.nd (i_seq rfl (p_take (p_var 15))) (blkOk_by (N := ["script", "row", "wholes", "best", "part", "middle", "below", "above", "value", "a", "b", "c", "d", "one", "other", "rows", "whole", "e", "k"]) (sc := defScope (top 25)) (own := [("part", 4)]) (by decide +kernel)) (fun _ _ _ _ _ => (g_name S.nd rfl (.inl rfl) (i := 4))) (fun _ _ _ _ _ => (t_one (p_tcmp op_gt v_cmp (p_bin op_mul3 v_mul (p_ix ix_seq v_ix (p_var 4) p_int (fun _ _ => rfl)) (p_ix ix_seq v_ix (p_var 5) p_int (fun _ _ => rfl))) (p_bin op_mul3 v_mul (p_ix ix_seq v_ix (p_var 5) p_int (fun _ _ => rfl)) (p_ix ix_seq v_ix (p_var 4) p_int (fun _ _ => rfl))) rfl))) (fun _ _ _ _ _ => (p_take p_int))) pr_nil)))
  (s_cons (s_if (t_w (w_or (p_tcmp op_gt v_cmp (p_bin op_mul3 v_mul p_int (p_var 6)) (p_blt cl_len v_len rfl T.len bb_len (pr_cons (p_var 15) pr_nil)) rfl) (w_or (p_tcmp op_gt v_cmp (p_bin op_mul3 v_mul p_int (p_var 7)) (p_blt cl_len v_len rfl T.len bb_len (pr_cons (p_var 15) pr_nil)) rfl) (w_or1 (t_w (w_and (p_tcmp (op_eqD (hu64 hr)) v_eq (p_bin op_mod v_mod (p_blt cl_len v_len rfl T.len bb_len (pr_cons (p_var 15) pr_nil)) p_int) p_int rfl) (w_and1 (p_tcmp (op_notInD (hu65 hr)) v_ninL (p_var 5) (p_var 15) rfl)))))))) (s_one (s_ret p_bl)) s_nil)
  (s_cons (s_for (passes_of rfl) rfl (i_seq rfl (p_take (p_lst (pr_cons p_non (pr_cons (p_tup (pr_cons p_int (pr_cons p_int pr_nil))) (pr_cons (p_tup (pr_cons p_int (pr_cons p_int pr_nil))) (pr_cons (p_tup (pr_cons p_int (pr_cons p_int pr_nil))) (pr_cons (p_tup (pr_cons p_int pr_nil)) (pr_cons (p_tup (pr_cons p_bl (pr_cons p_int pr_nil))) (pr_cons (p_val (p_take (p_lst (pr_cons p_int (pr_cons p_int (pr_cons p_int pr_nil)))))) (pr_cons p_int (pr_cons (p_tup (pr_cons p_int (pr_cons (p_un un_neg v_neg p_int) pr_nil))) pr_nil)))))))))))) (g_name S.nd rfl (.inl rfl) (i := 8)) (s_cons (s_if (p_tst (p_ca Cis_fraction (by omega) gd hr (takes_of rfl rfl rfl rfl) rfl (pr_cons (p_val (p_take (p_var 8))) pr_nil) (len_cons len_nil))) (s_one (s_ret p_bl)) s_nil)
  (s_one (s_tryAs rfl rfl S.nd (i := 17) (C := 1) (m := 2) rfl rfl ⟨rfl, by decide, .inl T.mg_BadNumber⟩ (takes_of rfl rfl rfl rfl) T.exm_BadNumber (fun W pn xe tk0 pw0 => (s_cons (s_expr (p_ca Cwant_fraction (by omega) gd hr tk0 rfl (pr_cons (p_val (p_take (p_var 8))) pr_nil) (len_cons len_nil)))
  (s_one (s_ret p_bl)))) (fun C' ps a oe d pn hm hsb hz hv => by
    have hC : C' = 1 := of_leaf_BadNumber hm hsb
    subst hC
    exact (x_one (x_if rfl (p_tcmp (op_neD (by have z := hu64 hr; exact z)) v_ne (p_blt (call_reprD gd (by have z := hu65 hr; exact z)) v_repr rfl T.repr bb_repr (pr_cons (p_xf T.xf_BadNumber T.no_BadNumber_value hz hv (i := 17) rfl (.inl rfl) lay_BadNumber_0 layne_BadNumber) pr_nil)) (p_blt (call_reprD gd (by have z := hu65 hr; exact z)) v_repr rfl T.repr bb_repr (pr_cons (p_var 8) pr_nil)) rfl) (s_one (s_ret p_bl)) s_nil)))))))
  (s_one (s_ret (p_ca C_law_alike (by omega) gd hr (takes_of rfl rfl rfl rfl) rfl (pr_cons (p_val (p_take (p_ca Cwant_fraction (by omega) gd hr (takes_of rfl rfl rfl rfl) rfl (pr_cons (p_val (p_take (p_bty call_list_of v_list rfl T.list bb_list (pr_cons (p_var 13) pr_nil)))) pr_nil) (len_cons len_nil)))) (pr_cons (p_val (p_take (p_var 13))) pr_nil)) (len_cons (len_cons len_nil)))))))))))))))))))))))
end
end PV

set_option maxHeartbeats 1000000
namespace PV
open PySem L2
/-! ### running in plain words -/
@[simp] theorem toP_lst {xs : List P} : (O.lst xs).toP = .lst xs := rfl
def Sm (i : Int) : Prop := -(10 ^ 20) < i ∧ i < 10 ^ 20
theorem Sm.log {i : Int} (h : Sm i) : i.natAbs.log2 < 100 := by
  unfold Sm at h
  by_cases z : i.natAbs = 0
  · rw [z]; decide
  · exact (Nat.log2_lt z).mpr (by omega)
theorem mulP_sm {i j : Int} (hi : Sm i) (hj : Sm j) : mulP (.int i) (.int j) = some (.val (.int (i * j))) := by
  have h1 := hi.log
  have h2 := hj.log
  unfold mulP
  simp only [ii]
  rw [if_pos (by omega)]
theorem fdivP_sm {i j : Int} (hj : Sm j) (h0 : 0 < j) : fdivP (.int i) (.int j) = some (.val (.int (i / j))) := by
  have h2 := hj.log
  unfold fdivP
  simp only [ii]
  rw [if_pos ⟨h0, by omega⟩]
theorem modP_pos {i j : Int} (h0 : 0 < j) : modP (.int i) (.int j) = some (.val (.int (i % j))) := by
  unfold modP
  simp only [ii]
  rw [if_pos h0]
@[simp] theorem addP_int {i j : Int} : addP (.int i) (.int j) = some (.val (.int (i + j))) := rfl
@[simp] theorem subP_int {i j : Int} : subP (.int i) (.int j) = some (.val (.int (i - j))) := rfl
@[simp] theorem negP_int {i : Int} : negP (.int i) = some (.val (.int (-i))) := rfl
@[simp] theorem ltP_int {i j : Int} : ltP (.int i) (.int j) = some (.val (.bl (decide (i < j)))) := rfl
@[simp] theorem leP_int {i j : Int} : leP (.int i) (.int j) = some (.val (.bl (decide (i ≤ j)))) := rfl
@[simp] theorem gtP_int {i j : Int} : gtP (.int i) (.int j) = some (.val (.bl (decide (j < i)))) := rfl
@[simp] theorem geP_int {i j : Int} : geP (.int i) (.int j) = some (.val (.bl (decide (j ≤ i)))) := rfl
@[simp] theorem intP_int {i : Int} : intP [.int i] = some (.val (.int i)) := rfl
@[simp] theorem absP_int {i : Int} : absP [.int i] = some (.val (.int (if i < 0 then -i else i))) := rfl
@[simp] theorem lenP_tup {l : List P} : lenP [.tup l] = some (.val (.int l.length)) := rfl
@[simp] theorem lenP_lst {l : List P} : lenP [.lst l] = some (.val (.int l.length)) := rfl
@[simp] theorem lenP_scr {l : List Int} : lenP [.scr l] = some (.val (.int l.length)) := rfl
theorem atI_ok {α : Type} {l : List α} {i : Int} {x : α} (h0 : 0 ≤ i) (h1 : i ≤ 1000000) (e : l[i.toNat]? = some x) : atI l i = some x := by
  have hl := (List.getElem?_eq_some_iff.mp e).1
  unfold atI ixN
  rw [if_pos h0, if_pos (by omega)]
  exact e
def fr (p : Int × Int) : P := .tup [.int p.1, .int p.2]
theorem ix0 {a : P} {l : List P} : ixP (.tup (a :: l)) (.int 0) = some (.val a) := by
  show (atI (a :: l) 0).map _ = _
  rw [atI_ok (x := a) (by decide) (by decide) rfl]; rfl
theorem ix1 {a b : P} {l : List P} : ixP (.tup (a :: b :: l)) (.int 1) = some (.val b) := by
  show (atI (a :: b :: l) 1).map _ = _
  rw [atI_ok (x := b) (by decide) (by decide) rfl]; rfl
example {a b c d : Int} (ha : Sm a) (hb : Sm b) (hc : Sm c) (hd : Sm d) : Fis_less [.val (fr (a, b)), .val (fr (c, d))] = .ok (.val (.bl (decide (a * d < c * b)))) [.val (fr (a, b)), .val (fr (c, d))] := by
  unfold Fis_less Bis_less
  simp [seqF, skipF, ifF, retF, retR, setF, setR, parF, asgF, asgR, dropF, Out.bind, cF, varF, valF, takeF, takeR, binF, op2, op1, unF, opN, rds, rdP, outR, calF, consF, nilF, callF, callR, loads, loadR, tstF, tstR, andF, orF, notF, andVF, orVF, notVF, boolR, ifEF, chF, tupF, tupR, vals, lstF, lstR, fnF, Rv.rs, fr, ix0, ix1, mulP_sm, ha, hb, hc, hd, backA]
/-! reduced -/
def red (a b : Int) : Int × Int := (a / (Int.gcd a b : Int), b / (Int.gcd a b : Int))
theorem while_gcd : ∀ (n : Nat) (s0 s1 : Sl) (x y : Int), 0 ≤ x → 0 ≤ y → y.toNat < n → whileF n (tstF (binF gtP (varF 3) (cF (.int 0)))) (parF 2 3 (valF (takeF (varF 3))) (binF modP (varF 2) (varF 3))) [s0, s1, .val (.int x), .val (.int y)] = .ok .nx [s0, s1, .val (.int (Int.gcd x y : Int)), .val (.int 0)]
  | 0, _, _, _, _, _, _, h => by omega
  | n + 1, s0, s1, x, y, hx, hy, h => by
    unfold whileF
    by_cases z : y = 0
    · subst z
      simp [seqF, skipF, ifF, retF, retR, setF, setR, parF, asgF, asgR, dropF, Out.bind, cF, varF, valF, takeF, takeR, binF, op2, op1, unF, opN, rds, rdP, outR, calF, consF, nilF, callF, callR, loads, loadR, tstF, tstR, andF, orF, notF, andVF, orVF, notVF, boolR, ifEF, chF, tupF, tupR, vals, lstF, lstR, fnF, Rv.rs]
      omega
    · have hp : 0 < y := by omega
      have hm := Int.emod_nonneg x z
      have hl := Int.emod_lt_of_pos x hp
      have ih := while_gcd n s0 s1 y (x % y) hy hm (by omega)
      have e : (Int.gcd y (x % y) : Int) = (Int.gcd x y : Int) := by rw [Int.emod_def, Int.gcd_sub_mul_left_right, Int.gcd_comm]
      rw [e] at ih
      simp [seqF, skipF, ifF, retF, retR, setF, setR, parF, asgF, asgR, dropF, Out.bind, cF, varF, valF, takeF, takeR, binF, op2, op1, unF, opN, rds, rdP, outR, calF, consF, nilF, callF, callR, loads, loadR, tstF, tstR, andF, orF, notF, andVF, orVF, notVF, boolR, ifEF, chF, tupF, tupR, vals, lstF, lstR, fnF, Rv.rs, hp, modP_pos hp]
      exact ih
theorem reduced_ok {a b : Int} (ha : Sm a) (hb : Sm b) (h : 1 ≤ b) : Freduced [.val (.int a), .val (.int b)] = .ok (.val (fr (red a b))) [.val (.int a), .val (.int b)] := by
  have hw := while_gcd 10000000000000000000000000000000000000000 (.val (.int a)) (.val (.int b)) (if a < 0 then -a else a) b (by split <;> omega) (by omega) (by unfold Sm at hb; omega)
  have hg : (Int.gcd (if a < 0 then -a else a) b : Int) = (Int.gcd a b : Int) := by
    split
    · rw [Int.neg_gcd]
    · rfl
  rw [hg] at hw
  have hpos : (0 : Int) < (Int.gcd a b : Int) := by
    have : 0 < Int.gcd a b := Int.gcd_pos_of_ne_zero_right a (by omega)
    omega
  have hle : (Int.gcd a b : Int) ≤ b := by
    have := Int.le_of_dvd (by omega) (Int.gcd_dvd_right a b)
    exact this
  have hsm : Sm (Int.gcd a b : Int) := by unfold Sm at *; omega
  unfold Freduced Breduced
  unfold red
  generalize (Int.gcd a b : Int) = g at *
  simp [seqF, skipF, ifF, retF, retR, setF, setR, parF, asgF, asgR, dropF, Out.bind, cF, varF, valF, takeF, takeR, binF, op2, op1, unF, opN, rds, rdP, outR, calF, consF, nilF, callF, callR, loads, loadR, tstF, tstR, andF, orF, notF, andVF, orVF, notVF, boolR, ifEF, chF, tupF, tupR, vals, lstF, lstR, fnF, Rv.rs, hw, hpos, fdivP_sm hsm hpos, backA, fr]
/-! equal -/
theorem beqd (i j : Int) : (i == j) = decide (i = j) := by by_cases h : i = j <;> simp [seqF, skipF, ifF, retF, retR, setF, setR, parF, asgF, asgR, dropF, Out.bind, cF, varF, valF, takeF, takeR, binF, op2, op1, unF, opN, rds, rdP, outR, calF, consF, nilF, callF, callR, loads, loadR, tstF, tstR, andF, orF, notF, andVF, orVF, notVF, boolR, ifEF, chF, tupF, tupR, vals, lstF, lstR, fnF, Rv.rs, h]
theorem dat_int {i : Int} {n : Nat} : dat n (.int i) = true := by cases n <;> rfl
theorem dat_bl {i : Bool} {n : Nat} : dat n (.bl i) = true := by cases n <;> rfl
theorem dat_fr {p : Int × Int} : dat 60 (fr p) = true := by unfold fr; simp [seqF, skipF, ifF, retF, retR, setF, setR, parF, asgF, asgR, dropF, Out.bind, cF, varF, valF, takeF, takeR, binF, op2, op1, unF, opN, rds, rdP, outR, calF, consF, nilF, callF, callR, loads, loadR, tstF, tstR, andF, orF, notF, andVF, orVF, notVF, boolR, ifEF, chF, tupF, tupR, vals, lstF, lstR, fnF, Rv.rs, dat, dat_int]
@[simp] theorem eqP_int {i j : Int} : eqP (.int i) (.int j) = some (.val (.bl (decide (i = j)))) := by
  unfold eqP
  rw [if_pos ⟨dat_int, dat_int⟩]
  simp [seqF, skipF, ifF, retF, retR, setF, setR, parF, asgF, asgR, dropF, Out.bind, cF, varF, valF, takeF, takeR, binF, op2, op1, unF, opN, rds, rdP, outR, calF, consF, nilF, callF, callR, loads, loadR, tstF, tstR, andF, orF, notF, andVF, orVF, notVF, boolR, ifEF, chF, tupF, tupR, vals, lstF, lstR, fnF, Rv.rs, ib, eqv, toD, PyData.eqv, beqd]
@[simp] theorem neP_int {i j : Int} : neP (.int i) (.int j) = some (.val (.bl (!decide (i = j)))) := by
  unfold neP
  rw [if_pos ⟨dat_int, dat_int⟩]
  simp [seqF, skipF, ifF, retF, retR, setF, setR, parF, asgF, asgR, dropF, Out.bind, cF, varF, valF, takeF, takeR, binF, op2, op1, unF, opN, rds, rdP, outR, calF, consF, nilF, callF, callR, loads, loadR, tstF, tstR, andF, orF, notF, andVF, orVF, notVF, boolR, ifEF, chF, tupF, tupR, vals, lstF, lstR, fnF, Rv.rs, ib, eqv, toD, PyData.eqv, beqd]
@[simp] theorem eqP_bl {i j : Bool} : eqP (.bl i) (.bl j) = some (.val (.bl (i == j))) := by
  unfold eqP
  rw [if_pos ⟨dat_bl, dat_bl⟩]
  cases i <;> cases j <;> rfl
@[simp] theorem neP_bl {i j : Bool} : neP (.bl i) (.bl j) = some (.val (.bl (!(i == j)))) := by
  unfold neP
  rw [if_pos ⟨dat_bl, dat_bl⟩]
  cases i <;> cases j <;> rfl
theorem eqP_fr {p q : Int × Int} : eqP (fr p) (fr q) = some (.val (.bl (decide (p = q)))) := by
  unfold eqP
  rw [if_pos ⟨dat_fr, dat_fr⟩]
  obtain ⟨a, b⟩ := p
  obtain ⟨c, d⟩ := q
  simp [seqF, skipF, ifF, retF, retR, setF, setR, parF, asgF, asgR, dropF, Out.bind, cF, varF, valF, takeF, takeR, binF, op2, op1, unF, opN, rds, rdP, outR, calF, consF, nilF, callF, callR, loads, loadR, tstF, tstR, andF, orF, notF, andVF, orVF, notVF, boolR, ifEF, chF, tupF, tupR, vals, lstF, lstR, fnF, Rv.rs, ib, eqv, fr, toD, toDs, PyData.eqv, PyData.eqvAll, beqd]
@[simp] theorem eqP_nil : eqP (.lst []) (.lst []) = some (.val (.bl true)) := by
  unfold eqP
  rw [if_pos ⟨rfl, rfl⟩]
  rfl
/-! low -/
def lowF (a b : Int) (h k : Int) : Int := if a % k = 0 ∧ b % k = 0 then k else h
def lastV (x0 : Sl) (l : List Int) : Sl := match l.getLast? with | some k => .val (.int k) | none => x0
theorem lastV_cons {x0 : Sl} {k : Int} {l : List Int} : lastV (.val (.int k)) l = lastV x0 (k :: l) := by
  unfold lastV
  cases l with
  | nil => rfl
  | cons j l => rw [List.getLast?_cons_cons]; cases h : (j :: l).getLast? with
    | none => simp [seqF, skipF, ifF, retF, retR, setF, setR, parF, asgF, asgR, dropF, Out.bind, cF, varF, valF, takeF, takeR, binF, op2, op1, unF, opN, rds, rdP, outR, calF, consF, nilF, callF, callR, loads, loadR, tstF, tstR, andF, orF, notF, andVF, orVF, notVF, boolR, ifEF, chF, tupF, tupR, vals, lstF, lstR, fnF, Rv.rs] at h
    | some z => rfl
theorem loop_low {a b : Int} : ∀ (l : List Int) (x0 : Sl) (here : Int), (∀ o, x0 ≠ .loan o) → (∀ k ∈ l, 0 < k) → loopF (nameT 3) (ifF (andF (tstF (binF eqP (binF modP (calF intP (consF (varF 0) (nilF))) (varF 3)) (cF (.int 0)))) (tstF (binF eqP (binF modP (calF intP (consF (varF 1) (nilF))) (varF 3)) (cF (.int 0))))) (setF 2 (valF (takeF (varF 3)))) (skipF)) (l.map P.int) [.val (.int a), .val (.int b), .val (.int here), x0]
    = .ok .nx [.val (.int a), .val (.int b), .val (.int (l.foldl (lowF a b) here)), lastV x0 l]
  | [], x0, here, _, _ => by simp [seqF, skipF, ifF, retF, retR, setF, setR, parF, asgF, asgR, dropF, Out.bind, cF, varF, valF, takeF, takeR, binF, op2, op1, unF, opN, rds, rdP, outR, calF, consF, nilF, callF, callR, loads, loadR, tstF, tstR, andF, orF, notF, andVF, orVF, notVF, boolR, ifEF, chF, tupF, tupR, vals, lstF, lstR, fnF, Rv.rs, loopF, lastV]
  | k :: l, x0, here, hx, hk => by
    have h0 := hk k List.mem_cons_self
    have ih := fun here => loop_low (a := a) (b := b) l (.val (.int k)) here (fun o z => by cases z) fun j hj => hk j (List.mem_cons_of_mem _ hj)
    rw [List.map_cons, List.foldl_cons, ← lastV_cons]
    unfold loopF
    have ht : nameT 3 (.int k) [.val (.int a), .val (.int b), .val (.int here), x0] = some [.val (.int a), .val (.int b), .val (.int here), .val (.int k)] := by
      cases x0 with
      | loan o => exact absurd rfl (hx o)
      | _ => rfl
    simp only [ht]
    unfold lowF
    by_cases h1 : a % k = 0
    · by_cases h2 : b % k = 0
      · simp [seqF, skipF, ifF, retF, retR, setF, setR, parF, asgF, asgR, dropF, Out.bind, cF, varF, valF, takeF, takeR, binF, op2, op1, unF, opN, rds, rdP, outR, calF, consF, nilF, callF, callR, loads, loadR, tstF, tstR, andF, orF, notF, andVF, orVF, notVF, boolR, ifEF, chF, tupF, tupR, vals, lstF, lstR, fnF, Rv.rs, modP_pos h0, h1, h2]
        exact ih k
      · simp [seqF, skipF, ifF, retF, retR, setF, setR, parF, asgF, asgR, dropF, Out.bind, cF, varF, valF, takeF, takeR, binF, op2, op1, unF, opN, rds, rdP, outR, calF, consF, nilF, callF, callR, loads, loadR, tstF, tstR, andF, orF, notF, andVF, orVF, notVF, boolR, ifEF, chF, tupF, tupR, vals, lstF, lstR, fnF, Rv.rs, modP_pos h0, h1, h2]
        exact ih here
    · simp [seqF, skipF, ifF, retF, retR, setF, setR, parF, asgF, asgR, dropF, Out.bind, cF, varF, valF, takeF, takeR, binF, op2, op1, unF, opN, rds, rdP, outR, calF, consF, nilF, callF, callR, loads, loadR, tstF, tstR, andF, orF, notF, andVF, orVF, notVF, boolR, ifEF, chF, tupF, tupR, vals, lstF, lstR, fnF, Rv.rs, modP_pos h0, h1]
      exact ih here
theorem fold_low {a b : Int} : ∀ n : Nat, let h := ((List.range n).map fun i : Nat => (1 + (i : Int))).foldl (lowF a b) 1
    1 ≤ h ∧ (h : Int) ∣ a ∧ h ∣ b ∧ ∀ k : Int, 1 ≤ k → k ≤ n → k ∣ a → k ∣ b → k ≤ h
  | 0 => by
    refine ⟨by simp [seqF, skipF, ifF, retF, retR, setF, setR, parF, asgF, asgR, dropF, Out.bind, cF, varF, valF, takeF, takeR, binF, op2, op1, unF, opN, rds, rdP, outR, calF, consF, nilF, callF, callR, loads, loadR, tstF, tstR, andF, orF, notF, andVF, orVF, notVF, boolR, ifEF, chF, tupF, tupR, vals, lstF, lstR, fnF, Rv.rs], by simp [seqF, skipF, ifF, retF, retR, setF, setR, parF, asgF, asgR, dropF, Out.bind, cF, varF, valF, takeF, takeR, binF, op2, op1, unF, opN, rds, rdP, outR, calF, consF, nilF, callF, callR, loads, loadR, tstF, tstR, andF, orF, notF, andVF, orVF, notVF, boolR, ifEF, chF, tupF, tupR, vals, lstF, lstR, fnF, Rv.rs], by simp [seqF, skipF, ifF, retF, retR, setF, setR, parF, asgF, asgR, dropF, Out.bind, cF, varF, valF, takeF, takeR, binF, op2, op1, unF, opN, rds, rdP, outR, calF, consF, nilF, callF, callR, loads, loadR, tstF, tstR, andF, orF, notF, andVF, orVF, notVF, boolR, ifEF, chF, tupF, tupR, vals, lstF, lstR, fnF, Rv.rs], fun k h1 h2 => by omega⟩
  | n + 1 => by
    have ih := fold_low (a := a) (b := b) n
    simp only [List.range_succ, List.map_append, List.map_cons, List.map_nil, List.foldl_append, List.foldl_cons, List.foldl_nil] at ih ⊢
    generalize ((List.range n).map fun i : Nat => (1 + (i : Int))).foldl (lowF a b) 1 = h at *
    obtain ⟨h1, h2, h3, h4⟩ := ih
    unfold lowF
    by_cases z : a % (1 + (n : Int)) = 0 ∧ b % (1 + (n : Int)) = 0
    · rw [if_pos z]
      exact ⟨by omega, Int.dvd_of_emod_eq_zero z.1, Int.dvd_of_emod_eq_zero z.2, fun k k1 k2 _ _ => by omega⟩
    · rw [if_neg z]
      refine ⟨h1, h2, h3, fun k k1 k2 k3 k4 => ?_⟩
      by_cases y : k = 1 + (n : Int)
      · subst y
        exact absurd ⟨Int.emod_eq_zero_of_dvd k3, Int.emod_eq_zero_of_dvd k4⟩ z
      · exact h4 k k1 (by omega) k3 k4
theorem fold_gcd {a b : Int} (h : 1 ≤ b) : ((List.range b.toNat).map fun i : Nat => (1 + (i : Int))).foldl (lowF a b) 1 = (Int.gcd a b : Int) := by
  obtain ⟨h1, h2, h3, h4⟩ := fold_low (a := a) (b := b) b.toNat
  generalize ((List.range b.toNat).map fun i : Nat => (1 + (i : Int))).foldl (lowF a b) 1 = x at *
  have hg : 0 < Int.gcd a b := Int.gcd_pos_of_ne_zero_right a (by omega)
  have k1 := h4 (Int.gcd a b : Int) (by omega) (by have := Int.le_of_dvd (by omega) (Int.gcd_dvd_right a b); omega) (Int.gcd_dvd_left a b) (Int.gcd_dvd_right a b)
  have k2 := Int.le_of_dvd (by omega) (Int.dvd_coe_gcd h2 h3)
  omega
theorem low_ok {a b : Int} (hb2 : b ≤ 6000000) (h : 1 ≤ b) : F_law_low [.val (.int a), .val (.int b)] = .ok (.val (fr (red a b))) [.val (.int a), .val (.int b)] := by
  have hl := loop_low (a := a) (b := b) ((List.range b.toNat).map fun i : Nat => (1 + (i : Int))) .no 1 (fun o z => by cases z) (fun k hk => by
    obtain ⟨i, _, rfl⟩ := List.mem_map.mp hk
    omega)
  rw [fold_gcd h, List.map_map] at hl
  have hr : rngP 1 (b + 1) = (List.range b.toNat).map (P.int ∘ fun i : Nat => (1 + (i : Int))) := by
    unfold rngP
    rw [show b + 1 - 1 = b by omega]
    rfl
  have hpos : (0 : Int) < (Int.gcd a b : Int) := by
    have : 0 < Int.gcd a b := Int.gcd_pos_of_ne_zero_right a (by omega)
    omega
  have hle : (Int.gcd a b : Int) ≤ b := Int.le_of_dvd (by omega) (Int.gcd_dvd_right a b)
  have hsm : Sm (Int.gcd a b : Int) := by unfold Sm; omega
  unfold F_law_low B_law_low red
  generalize (Int.gcd a b : Int) = g at *
  have hrng : rng2F (consF (cF (.int 1)) (consF (binF addP (calF intP (consF (varF 1) nilF)) (cF (.int 1))) nilF)) [.val (.int a), .val (.int b), .val (.int 1), .no] = .ok (rngP 1 (b + 1)) [.val (.int a), .val (.int b), .val (.int 1), .no] := by
    simp [seqF, skipF, ifF, retF, retR, setF, setR, parF, asgF, asgR, dropF, Out.bind, cF, varF, valF, takeF, takeR, binF, op2, op1, unF, opN, rds, rdP, outR, calF, consF, nilF, callF, callR, loads, loadR, tstF, tstR, andF, orF, notF, andVF, orVF, notVF, boolR, ifEF, chF, tupF, tupR, vals, lstF, lstR, fnF, Rv.rs, rng2F, rng2R]
    omega
  simp [seqF, skipF, ifF, retF, retR, setF, setR, parF, asgF, asgR, dropF, Out.bind, cF, varF, valF, takeF, takeR, binF, op2, op1, unF, opN, rds, rdP, outR, calF, consF, nilF, callF, callR, loads, loadR, tstF, tstR, andF, orF, notF, andVF, orVF, notVF, boolR, ifEF, chF, tupF, tupR, vals, lstF, lstR, fnF, Rv.rs, forF, hrng, hr, hl, fdivP_sm hsm hpos, backA, fr]
end PV

set_option maxHeartbeats 2000000
namespace PV
open PySem L2
/-! draws -/
def Row (ns : List Int) (o : List P) : Prop := ∃ i s r : Int, o = [.scr ns, .int i, .int s, .int r] ∧ 0 ≤ i ∧ (0 ≤ s ∧ s < 2147483647) ∧ 0 ≤ r
theorem ixL0 {a b c d : P} : ixP (.lst [a, b, c, d]) (.int 0) = some (.val a) := rfl
theorem ixL1 {a b c d : P} : ixP (.lst [a, b, c, d]) (.int 1) = some (.val b) := rfl
theorem ixL2 {a b c d : P} : ixP (.lst [a, b, c, d]) (.int 2) = some (.val c) := rfl
theorem ixL3 {a b c d : P} : ixP (.lst [a, b, c, d]) (.int 3) = some (.val d) := rfl
theorem ixN1 : ixN 4 1 = some 1 := by decide
theorem ixN2 : ixN 4 2 = some 2 := by decide
theorem ixN3 : ixN 4 3 = some 3 := by decide
theorem taken_ok {ns : List Int} {o : List P} {m : Int} (h : Row ns o) (hm : 1 ≤ m) (hs : Sm m) : ∃ v o', (0 ≤ v ∧ v < m) ∧ Row ns o' ∧ F_law_taken [.loan (.lst o), .val (.int m)] = .ok (.val (.int v)) [.loan (.lst o'), .val (.int m)] := by
  obtain ⟨i, s, r, rfl, hi, hs2, hr⟩ := h
  have hm0 : 0 < m := by omega
  have v0 : ∀ x : Int, 0 ≤ x % m ∧ x % m < m := fun x => ⟨Int.emod_nonneg x (by omega), Int.emod_lt_of_pos x hm0⟩
  have s7 : Sm 7 := by unfold Sm; omega
  have sS : Sm s := by unfold Sm; omega
  have s48 : Sm 48271 := by unfold Sm; omega
  unfold F_law_taken B_law_taken
  by_cases z : 0 < r
  · refine ⟨r % m, [.scr ns, .int i, .int s, .int (r / m)], v0 _, ⟨i, s, r / m, rfl, hi, hs2, Int.ediv_nonneg (by omega) (by omega)⟩, ?_⟩
    simp [seqF, skipF, ifF, retF, retR, setF, setR, parF, asgF, asgR, dropF, Out.bind, cF, varF, valF, takeF, takeR, binF, op2, op1, unF, opN, rds, rdP, outR, calF, consF, nilF, callF, callR, loads, loadR, tstF, tstR, andF, orF, notF, andVF, orVF, notVF, boolR, ifEF, chF, tupF, tupR, vals, lstF, lstR, fnF, Rv.rs, stF, stR, getL, slL, putL, Sl.put, ixL0, ixL1, ixL2, ixL3, ixN1, ixN2, ixN3, z, modP_pos hm0, fdivP_sm hs hm0, backA]
  · by_cases y : (ns.length : Int) < i + 1
    · refine ⟨((s * 48271 + 11) % 2147483647 / 7) % m, [.scr ns, .int (i + 1), .int ((s * 48271 + 11) % 2147483647), .int r], v0 _, ⟨_, _, _, rfl, by omega, ⟨Int.emod_nonneg _ (by omega), Int.emod_lt_of_pos _ (by omega)⟩, hr⟩, ?_⟩
      simp [seqF, skipF, ifF, retF, retR, setF, setR, parF, asgF, asgR, dropF, Out.bind, cF, varF, valF, takeF, takeR, binF, op2, op1, unF, opN, rds, rdP, outR, calF, consF, nilF, callF, callR, loads, loadR, tstF, tstR, andF, orF, notF, andVF, orVF, notVF, boolR, ifEF, chF, tupF, tupR, vals, lstF, lstR, fnF, Rv.rs, stF, stR, getL, slL, putL, Sl.put, ixL0, ixL1, ixL2, ixL3, ixN1, ixN2, ixN3, z, y, modP_pos hm0, modP_pos (show (0 : Int) < 2147483647 by omega), fdivP_sm s7 (by omega), mulP_sm sS s48, backA]
    · obtain ⟨cell, hc⟩ : ∃ c, ns[i.toNat]? = some c := ⟨_, List.getElem?_eq_getElem (by omega)⟩
      have hix : ixP (.scr ns) (.int i) = some (.val (.int cell)) := by
        show (atI ns i).map _ = _
        have : atI ns i = some cell := by
          unfold atI ixN
          rw [if_pos hi, if_pos (by omega)]
          exact hc
        rw [this]; rfl
      have hpow : powP (.int 10) (.int 18) = some (.val (.int 1000000000000000000)) := by simp [seqF, skipF, ifF, retF, retR, setF, setR, parF, asgF, asgR, dropF, Out.bind, cF, varF, valF, takeF, takeR, binF, op2, op1, unF, opN, rds, rdP, outR, calF, consF, nilF, callF, callR, loads, loadR, tstF, tstR, andF, orF, notF, andVF, orVF, notVF, boolR, ifEF, chF, tupF, tupR, vals, lstF, lstR, fnF, Rv.rs, stF, stR, getL, slL, putL, Sl.put, powP, ii]
      by_cases x : (1000000000000000000 : Int) ≤ cell
      · refine ⟨cell % m, [.scr ns, .int (i + 1), .int ((s * 48271 + cell + 11) % 2147483647), .int (cell / m)], v0 _, ⟨_, _, _, rfl, by omega, ⟨Int.emod_nonneg _ (by omega), Int.emod_lt_of_pos _ (by omega)⟩, Int.ediv_nonneg (by omega) (by omega)⟩, ?_⟩
        simp [seqF, skipF, ifF, retF, retR, setF, setR, parF, asgF, asgR, dropF, Out.bind, cF, varF, valF, takeF, takeR, binF, op2, op1, unF, opN, rds, rdP, outR, calF, consF, nilF, callF, callR, loads, loadR, tstF, tstR, andF, orF, notF, andVF, orVF, notVF, boolR, ifEF, chF, tupF, tupR, vals, lstF, lstR, fnF, Rv.rs, stF, stR, getL, slL, putL, Sl.put, ixL0, ixL1, ixL2, ixL3, ixN1, ixN2, ixN3, z, y, hix, hpow, x, modP_pos hm0, modP_pos (show (0 : Int) < 2147483647 by omega), fdivP_sm hs hm0, mulP_sm sS s48, backA]
      · refine ⟨cell % m, [.scr ns, .int (i + 1), .int ((s * 48271 + cell + 11) % 2147483647), .int r], v0 _, ⟨_, _, _, rfl, by omega, ⟨Int.emod_nonneg _ (by omega), Int.emod_lt_of_pos _ (by omega)⟩, hr⟩, ?_⟩
        simp [seqF, skipF, ifF, retF, retR, setF, setR, parF, asgF, asgR, dropF, Out.bind, cF, varF, valF, takeF, takeR, binF, op2, op1, unF, opN, rds, rdP, outR, calF, consF, nilF, callF, callR, loads, loadR, tstF, tstR, andF, orF, notF, andVF, orVF, notVF, boolR, ifEF, chF, tupF, tupR, vals, lstF, lstR, fnF, Rv.rs, stF, stR, getL, slL, putL, Sl.put, ixL0, ixL1, ixL2, ixL3, ixN1, ixN2, ixN3, z, y, hix, hpow, x, modP_pos hm0, modP_pos (show (0 : Int) < 2147483647 by omega), fdivP_sm hs hm0, mulP_sm sS s48, backA]
/-! alike -/
/-- ints and tuples of them -/
def alk : Nat → P → Bool
  | _, .int _ => true
  | n + 1, .tup ps => decide (ps.length ≤ 1000) && ps.all (alk n)
  | _, _ => false
theorem isiT_int {i : Int} : isiP' [.int i, .tup [.ty "tuple", .ty "list"]] = some (.val (.bl false)) := rfl
theorem isiT_tup {l : List P} : isiP' [.tup l, .tup [.ty "tuple", .ty "list"]] = some (.val (.bl true)) := rfl
theorem isiL_tup {l : List P} : isiP' [.tup l, .ty "list"] = some (.val (.bl false)) := rfl
theorem isiS_int {i : Int} : isiP' [.int i, .ty "str"] = some (.val (.bl false)) := rfl
theorem isiI_int {i : Int} : isiP' [.int i, .ty "int"] = some (.val (.bl true)) := rfl
theorem isiB_int {i : Int} : isiP' [.int i, .ty "bool"] = some (.val (.bl false)) := rfl
theorem isN_int {i : Int} : isNP false (.int i) .non = some (.val (.bl false)) := rfl
theorem alike_loop {d : FN} {l : List P} (hd : ∀ p ∈ l, d [.val p, .val p] = .ok (.val (.bl true)) [.val p, .val p]) {π0 : En} : ∀ (is : List Nat), (∀ i ∈ is, i < l.length) →
    lcLoop (nameT 2) (notF (tstF (callF d (consF (binF ixP (varF 0) (varF 2)) (consF (binF ixP (varF 1) (varF 2)) (nilF)))))) (takeF (varF 2)) [2] π0 (is.map fun (i : Nat) => P.int (i : Int)) [] [.val (.tup l), .val (.tup l), .no] = .ok (.own (.lst [])) (restE π0 [.val (.tup l), .val (.tup l), .no] [2])
  | [], _ => by simp [seqF, skipF, ifF, retF, retR, setF, setR, parF, asgF, asgR, dropF, Out.bind, cF, varF, valF, takeF, takeR, binF, op2, op1, unF, opN, rds, rdP, outR, calF, consF, nilF, callF, callR, loads, loadR, tstF, tstR, andF, orF, notF, andVF, orVF, notVF, boolR, ifEF, chF, tupF, tupR, vals, lstF, lstR, fnF, Rv.rs, stF, stR, getL, slL, putL, Sl.put, lcLoop]
  | i :: is, h => by
    have ih := alike_loop hd (π0 := π0) is fun j hj => h j (List.mem_cons_of_mem _ hj)
    have hi := h i List.mem_cons_self
    have hix : ixP (.tup l) (.int (i : Int)) = some (.val l[i]) := by
      show (atI l (i : Int)).map _ = _
      have : atI l (i : Int) = some l[i] := by
        unfold atI ixN
        rw [if_pos (by omega), if_pos (by omega)]
        show l[(i : Int).toNat]? = _
        rw [Int.toNat_natCast]
        exact List.getElem?_eq_getElem hi
      rw [this]; rfl
    have hd1 := hd l[i] (List.getElem_mem hi)
    rw [List.map_cons]
    unfold lcLoop
    simp [seqF, skipF, ifF, retF, retR, setF, setR, parF, asgF, asgR, dropF, Out.bind, cF, varF, valF, takeF, takeR, binF, op2, op1, unF, opN, rds, rdP, outR, calF, consF, nilF, callF, callR, loads, loadR, tstF, tstR, andF, orF, notF, andVF, orVF, notVF, boolR, ifEF, chF, tupF, tupR, vals, lstF, lstR, fnF, Rv.rs, stF, stR, getL, slL, putL, Sl.put, nameT, hix, hd1, chk, wipeE, storeA, findL]
    exact ih
theorem alike_ok : ∀ (n : Nat) (p : P), alk n p = true → F_law_alike (n + 1) [.val p, .val p] = .ok (.val (.bl true)) [.val p, .val p] := by
  have hint : ∀ (n : Nat) (i : Int), F_law_alike (n + 1) [.val (.int i), .val (.int i)] = .ok (.val (.bl true)) [.val (.int i), .val (.int i)] := fun n i => by
    unfold F_law_alike B_law_alike
    simp [seqF, skipF, ifF, retF, retR, setF, setR, parF, asgF, asgR, dropF, Out.bind, cF, varF, valF, takeF, takeR, binF, op2, op1, unF, opN, rds, rdP, outR, calF, consF, nilF, callF, callR, loads, loadR, tstF, tstR, andF, orF, notF, andVF, orVF, notVF, boolR, ifEF, chF, tupF, tupR, vals, lstF, lstR, fnF, Rv.rs, stF, stR, getL, slL, putL, Sl.put, isiT_int, isiS_int, isiI_int, isiB_int, isN_int, backA]
  intro n
  induction n with
  | zero =>
    intro p hp
    cases p with
    | int i => exact hint 0 i
    | _ => simp [seqF, skipF, ifF, retF, retR, setF, setR, parF, asgF, asgR, dropF, Out.bind, cF, varF, valF, takeF, takeR, binF, op2, op1, unF, opN, rds, rdP, outR, calF, consF, nilF, callF, callR, loads, loadR, tstF, tstR, andF, orF, notF, andVF, orVF, notVF, boolR, ifEF, chF, tupF, tupR, vals, lstF, lstR, fnF, Rv.rs, stF, stR, getL, slL, putL, Sl.put, alk] at hp
  | succ n ih =>
    intro p hp
    cases p with
    | int i => exact hint _ i
    | tup l =>
      simp only [alk, Bool.and_eq_true, decide_eq_true_eq, List.all_eq_true] at hp
      have hl := alike_loop (d := F_law_alike (n + 1)) (l := l) (fun q hq => ih q (hp.2 q hq)) (π0 := [.val (.tup l), .val (.tup l), .no]) (List.range l.length) (fun i hi => List.mem_range.mp hi)
      have hr : rngP 0 (l.length : Int) = (List.range l.length).map fun (i : Nat) => P.int (i : Int) := by
        unfold rngP
        rw [show ((l.length : Int) - 0).toNat = l.length by omega]
        apply List.map_congr_left
        intro i _
        simp [seqF, skipF, ifF, retF, retR, setF, setR, parF, asgF, asgR, dropF, Out.bind, cF, varF, valF, takeF, takeR, binF, op2, op1, unF, opN, rds, rdP, outR, calF, consF, nilF, callF, callR, loads, loadR, tstF, tstR, andF, orF, notF, andVF, orVF, notVF, boolR, ifEF, chF, tupF, tupR, vals, lstF, lstR, fnF, Rv.rs, stF, stR, getL, slL, putL, Sl.put]
      have hrng : rng1F (consF (calF lenP (consF (varF 1) nilF)) nilF) [.val (.tup l), .val (.tup l), .no] = .ok (rngP 0 (l.length : Int)) [.val (.tup l), .val (.tup l), .no] := by
        simp [seqF, skipF, ifF, retF, retR, setF, setR, parF, asgF, asgR, dropF, Out.bind, cF, varF, valF, takeF, takeR, binF, op2, op1, unF, opN, rds, rdP, outR, calF, consF, nilF, callF, callR, loads, loadR, tstF, tstR, andF, orF, notF, andVF, orVF, notVF, boolR, ifEF, chF, tupF, tupR, vals, lstF, lstR, fnF, Rv.rs, stF, stR, getL, slL, putL, Sl.put, rng1F, rng1R]
        omega
      unfold F_law_alike
      rw [← show F_law_alike (n + 1) = F_law_alike (n + 1) from rfl]
      generalize hd : F_law_alike (n + 1) = d at *
      unfold B_law_alike
      simp [seqF, skipF, ifF, retF, retR, setF, setR, parF, asgF, asgR, dropF, Out.bind, cF, varF, valF, takeF, takeR, binF, op2, op1, unF, opN, rds, rdP, outR, calF, consF, nilF, callF, callR, loads, loadR, tstF, tstR, andF, orF, notF, andVF, orVF, notVF, boolR, ifEF, chF, tupF, tupR, vals, lstF, lstR, fnF, Rv.rs, stF, stR, getL, slL, putL, Sl.put, isiT_tup, isiL_tup, backA, lcF, hrng, hr, chk, wipeE, hl, restE]
    | _ => simp [seqF, skipF, ifF, retF, retR, setF, setR, parF, asgF, asgR, dropF, Out.bind, cF, varF, valF, takeF, takeR, binF, op2, op1, unF, opN, rds, rdP, outR, calF, consF, nilF, callF, callR, loads, loadR, tstF, tstR, andF, orF, notF, andVF, orVF, notVF, boolR, ifEF, chF, tupF, tupR, vals, lstF, lstR, fnF, Rv.rs, stF, stR, getL, slL, putL, Sl.put, alk] at hp
end PV

set_option maxHeartbeats 2000000
namespace PV
open PySem L2
@[simp] theorem nd1 {a : P} : (List.filterMap borIx [Rs.val a]).Nodup := by
  have : List.filterMap borIx [Rs.val a] = [] := rfl
  rw [this]; exact List.nodup_nil
@[simp] theorem nd2 {a b : P} : (List.filterMap borIx [Rs.val a, Rs.val b]).Nodup := by
  have : List.filterMap borIx [Rs.val a, Rs.val b] = [] := rfl
  rw [this]; exact List.nodup_nil
@[simp] theorem nd3 {i : Nat} {b : P} : (List.filterMap borIx [Rs.bor i, Rs.val b]).Nodup := by
  have : List.filterMap borIx [Rs.bor i, Rs.val b] = [i] := rfl
  rw [this]; simp [seqF, skipF, ifF, retF, retR, setF, setR, parF, asgF, asgR, dropF, Out.bind, cF, varF, valF, takeF, takeR, binF, op2, op1, unF, opN, rds, rdP, outR, calF, consF, nilF, callF, callR, loads, loadR, tstF, tstR, andF, orF, notF, andVF, orVF, notVF, boolR, ifEF, chF, tupF, tupR, vals, lstF, lstR, fnF, Rv.rs, stF, stR, getL, slL, putL, Sl.put]
/-! fractions -/
def Ab (A x : Int) : Prop := -A ≤ x ∧ x ≤ A
theorem ab_mul {A B x y : Int} (hx : Ab A x) (hy : Ab B y) : Ab (A * B) (x * y) := by
  have h1 : x.natAbs ≤ A.natAbs := by unfold Ab at hx; omega
  have h2 : y.natAbs ≤ B.natAbs := by unfold Ab at hy; omega
  have h3 : (x * y).natAbs ≤ (A * B).natAbs := by rw [Int.natAbs_mul, Int.natAbs_mul]; exact Nat.mul_le_mul h1 h2
  have h4 : 0 ≤ A * B := Int.mul_nonneg (by unfold Ab at hx; omega) (by unfold Ab at hy; omega)
  unfold Ab
  omega
theorem ab_sm {A x : Int} (h : Ab A x) (hA : A < 10 ^ 20) : Sm x := by unfold Ab at h; unfold Sm; omega
/-- a fraction: top at most X, bottom 1 .. Y -/
def Fb (X Y : Int) (p : Int × Int) : Prop := Ab X p.1 ∧ 1 ≤ p.2 ∧ p.2 ≤ Y
theorem Fb.bot {X Y : Int} {p : Int × Int} (h : Fb X Y p) : Ab Y p.2 := by unfold Fb at h; unfold Ab; omega
theorem Fb.le {X Y X' Y' : Int} {p : Int × Int} (h : Fb X Y p) (h1 : X ≤ X') (h2 : Y ≤ Y') : Fb X' Y' p := by unfold Fb Ab at *; omega
theorem gcd_pos {a b : Int} (h : 1 ≤ b) : (1 : Int) ≤ (Int.gcd a b : Int) := by
  have : 0 < Int.gcd a b := Int.gcd_pos_of_ne_zero_right a (by omega)
  omega
theorem red_fb {X Y a b : Int} (h1 : Ab X a) (h2 : 1 ≤ b) (h3 : b ≤ Y) : Fb X Y (red a b) := by
  have hg := gcd_pos (a := a) h2
  have hd := Int.gcd_dvd_right a b
  have hd2 := Int.gcd_dvd_left a b
  unfold red
  generalize (Int.gcd a b : Int) = g at *
  obtain ⟨k, hk⟩ := hd
  obtain ⟨j, hj⟩ := hd2
  subst hk hj
  have e1 : g * j / g = j := Int.mul_ediv_cancel_left _ (by omega)
  have e2 : g * k / g = k := Int.mul_ediv_cancel_left _ (by omega)
  have hk1 : 1 ≤ k := by
    rcases Int.lt_or_le 0 k with h | h
    · omega
    · have := Int.mul_nonpos_of_nonneg_of_nonpos (show 0 ≤ g by omega) h
      omega
  have hk2 : k ≤ g * k := by
    have := Int.mul_le_mul_of_nonneg_right hg (show 0 ≤ k by omega)
    omega
  have hj2 : j.natAbs ≤ (g * j).natAbs := by
    rw [Int.natAbs_mul]
    exact Nat.le_mul_of_pos_left _ (by omega)
  unfold Fb Ab at *
  simp only [e1, e2]
  omega
abbrev Sb (p : Int × Int) : Prop := Fb (10 ^ 9) (10 ^ 9) p
theorem sm9 {x : Int} (h : Ab (10 ^ 9) x) : Sm x := ab_sm h (by omega)
theorem sm18 {x y : Int} (h : Ab (10 ^ 9) x) (k : Ab (10 ^ 9) y) : Sm (x * y) := ab_sm (ab_mul h k) (by decide)
theorem sm18a {x y z t : Int} (h : Ab (10 ^ 9) x) (k : Ab (10 ^ 9) y) (l : Ab (10 ^ 9) z) (m : Ab (10 ^ 9) t) : Sm (x * y + z * t) := by
  have a1 := ab_mul h k
  have a2 := ab_mul l m
  unfold Ab at a1 a2; unfold Sm; omega
theorem sm18s {x y z t : Int} (h : Ab (10 ^ 9) x) (k : Ab (10 ^ 9) y) (l : Ab (10 ^ 9) z) (m : Ab (10 ^ 9) t) : Sm (x * y - z * t) := by
  have a1 := ab_mul h k
  have a2 := ab_mul l m
  unfold Ab at a1 a2; unfold Sm; omega
theorem one_mul_pos {x y : Int} (h : 1 ≤ x) (k : 1 ≤ y) : 1 ≤ x * y := by
  have := Int.mul_pos (show 0 < x by omega) (show 0 < y by omega)
  omega
section
variable {p q : Int × Int}
theorem plus_ok (hp : Sb p) (hq : Sb q) : Fplus [.val (fr p), .val (fr q)] = .ok (.val (fr (red (p.1 * q.2 + q.1 * p.2) (p.2 * q.2)))) [.val (fr p), .val (fr q)] := by
  have hr := reduced_ok (sm18a hp.1 hq.bot hq.1 hp.bot) (sm18 hp.bot hq.bot) (one_mul_pos hp.2.1 hq.2.1)
  unfold Fplus Bplus
  simp [seqF, skipF, ifF, retF, retR, setF, setR, parF, asgF, asgR, dropF, Out.bind, cF, varF, valF, takeF, takeR, binF, op2, op1, unF, opN, rds, rdP, outR, calF, consF, nilF, callF, callR, loads, loadR, tstF, tstR, andF, orF, notF, andVF, orVF, notVF, boolR, ifEF, chF, tupF, tupR, vals, lstF, lstR, fnF, Rv.rs, stF, stR, getL, slL, putL, Sl.put, fr, ix0, ix1, mulP_sm, sm9 hp.1, sm9 hq.1, sm9 hp.bot, sm9 hq.bot, hr, backA, storeA, findL]
theorem minus_ok (hp : Sb p) (hq : Sb q) : Fminus [.val (fr p), .val (fr q)] = .ok (.val (fr (red (p.1 * q.2 - q.1 * p.2) (p.2 * q.2)))) [.val (fr p), .val (fr q)] := by
  have hr := reduced_ok (sm18s hp.1 hq.bot hq.1 hp.bot) (sm18 hp.bot hq.bot) (one_mul_pos hp.2.1 hq.2.1)
  unfold Fminus Bminus
  simp [seqF, skipF, ifF, retF, retR, setF, setR, parF, asgF, asgR, dropF, Out.bind, cF, varF, valF, takeF, takeR, binF, op2, op1, unF, opN, rds, rdP, outR, calF, consF, nilF, callF, callR, loads, loadR, tstF, tstR, andF, orF, notF, andVF, orVF, notVF, boolR, ifEF, chF, tupF, tupR, vals, lstF, lstR, fnF, Rv.rs, stF, stR, getL, slL, putL, Sl.put, fr, ix0, ix1, mulP_sm, sm9 hp.1, sm9 hq.1, sm9 hp.bot, sm9 hq.bot, hr, backA, storeA, findL]
theorem times_ok (hp : Sb p) (hq : Sb q) : Ftimes [.val (fr p), .val (fr q)] = .ok (.val (fr (red (p.1 * q.1) (p.2 * q.2)))) [.val (fr p), .val (fr q)] := by
  have hr := reduced_ok (sm18 hp.1 hq.1) (sm18 hp.bot hq.bot) (one_mul_pos hp.2.1 hq.2.1)
  unfold Ftimes Btimes
  simp [seqF, skipF, ifF, retF, retR, setF, setR, parF, asgF, asgR, dropF, Out.bind, cF, varF, valF, takeF, takeR, binF, op2, op1, unF, opN, rds, rdP, outR, calF, consF, nilF, callF, callR, loads, loadR, tstF, tstR, andF, orF, notF, andVF, orVF, notVF, boolR, ifEF, chF, tupF, tupR, vals, lstF, lstR, fnF, Rv.rs, stF, stR, getL, slL, putL, Sl.put, fr, ix0, ix1, mulP_sm, sm9 hp.1, sm9 hq.1, sm9 hp.bot, sm9 hq.bot, hr, backA, storeA, findL]
theorem over_ok (hp : Sb p) (hq : Sb q) (h : 1 ≤ q.1) : Fover [.val (fr p), .val (fr q)] = .ok (.val (fr (red (p.1 * q.2) (p.2 * q.1)))) [.val (fr p), .val (fr q)] := by
  have hr := reduced_ok (sm18 hp.1 hq.bot) (sm18 hp.bot hq.1) (one_mul_pos hp.2.1 h)
  unfold Fover Bover
  simp [seqF, skipF, ifF, retF, retR, setF, setR, parF, asgF, asgR, dropF, Out.bind, cF, varF, valF, takeF, takeR, binF, op2, op1, unF, opN, rds, rdP, outR, calF, consF, nilF, callF, callR, loads, loadR, tstF, tstR, andF, orF, notF, andVF, orVF, notVF, boolR, ifEF, chF, tupF, tupR, vals, lstF, lstR, fnF, Rv.rs, stF, stR, getL, slL, putL, Sl.put, fr, ix0, ix1, mulP_sm, sm9 hp.1, sm9 hq.1, sm9 hp.bot, sm9 hq.bot, hr, backA, storeA, findL]
theorem less_ok (hp : Sb p) (hq : Sb q) : Fis_less [.val (fr p), .val (fr q)] = .ok (.val (.bl (decide (p.1 * q.2 < q.1 * p.2)))) [.val (fr p), .val (fr q)] := by
  unfold Fis_less Bis_less
  simp [seqF, skipF, ifF, retF, retR, setF, setR, parF, asgF, asgR, dropF, Out.bind, cF, varF, valF, takeF, takeR, binF, op2, op1, unF, opN, rds, rdP, outR, calF, consF, nilF, callF, callR, loads, loadR, tstF, tstR, andF, orF, notF, andVF, orVF, notVF, boolR, ifEF, chF, tupF, tupR, vals, lstF, lstR, fnF, Rv.rs, stF, stR, getL, slL, putL, Sl.put, fr, ix0, ix1, mulP_sm, sm9 hp.1, sm9 hq.1, sm9 hp.bot, sm9 hq.bot, backA]
theorem floor_ok (hp : Sb p) : Ffloor_of [.val (fr p)] = .ok (.val (.int (p.1 / p.2))) [.val (fr p)] := by
  unfold Ffloor_of Bfloor_of
  simp [seqF, skipF, ifF, retF, retR, setF, setR, parF, asgF, asgR, dropF, Out.bind, cF, varF, valF, takeF, takeR, binF, op2, op1, unF, opN, rds, rdP, outR, calF, consF, nilF, callF, callR, loads, loadR, tstF, tstR, andF, orF, notF, andVF, orVF, notVF, boolR, ifEF, chF, tupF, tupR, vals, lstF, lstR, fnF, Rv.rs, stF, stR, getL, slL, putL, Sl.put, fr, ix0, ix1, fdivP_sm (sm9 hp.bot) (show 0 < p.2 by have := hp.2.1; omega), backA]
theorem ceil_ok (hp : Sb p) : Fceiling_of [.val (fr p)] = .ok (.val (.int (-(-p.1 / p.2)))) [.val (fr p)] := by
  unfold Fceiling_of Bceiling_of
  simp [seqF, skipF, ifF, retF, retR, setF, setR, parF, asgF, asgR, dropF, Out.bind, cF, varF, valF, takeF, takeR, binF, op2, op1, unF, opN, rds, rdP, outR, calF, consF, nilF, callF, callR, loads, loadR, tstF, tstR, andF, orF, notF, andVF, orVF, notVF, boolR, ifEF, chF, tupF, tupR, vals, lstF, lstR, fnF, Rv.rs, stF, stR, getL, slL, putL, Sl.put, fr, ix0, ix1, fdivP_sm (sm9 hp.bot) (show 0 < p.2 by have := hp.2.1; omega), backA]
theorem near_ok (hp : Sb p) : Fnearest [.val (fr p)] = .ok (.val (.int ((2 * p.1 + p.2) / (2 * p.2)))) [.val (fr p)] := by
  have h2 : Sm 2 := by unfold Sm; omega
  have h3 : Sm (2 * p.2) := by have := hp.bot; unfold Ab at this; unfold Sm; omega
  unfold Fnearest Bnearest
  simp [seqF, skipF, ifF, retF, retR, setF, setR, parF, asgF, asgR, dropF, Out.bind, cF, varF, valF, takeF, takeR, binF, op2, op1, unF, opN, rds, rdP, outR, calF, consF, nilF, callF, callR, loads, loadR, tstF, tstR, andF, orF, notF, andVF, orVF, notVF, boolR, ifEF, chF, tupF, tupR, vals, lstF, lstR, fnF, Rv.rs, stF, stR, getL, slL, putL, Sl.put, fr, ix0, ix1, mulP_sm h2 (sm9 hp.1), mulP_sm h2 (sm9 hp.bot), fdivP_sm h3 (show 0 < 2 * p.2 by have := hp.2.1; omega), backA]
end
theorem isiR_tup {l : List P} : isiP' [.tup l, .tup [.ty "list", .ty "tuple"]] = some (.val (.bl true)) := rfl
theorem isiR_lst {l : List P} : isiP' [.lst l, .tup [.ty "list", .ty "tuple"]] = some (.val (.bl true)) := rfl
theorem whole_int {i : Int} : Fis_whole [.val (.int i)] = .ok (.val (.bl true)) [.val (.int i)] := by
  unfold Fis_whole Bis_whole
  simp [seqF, skipF, ifF, retF, retR, setF, setR, parF, asgF, asgR, dropF, Out.bind, cF, varF, valF, takeF, takeR, binF, op2, op1, unF, opN, rds, rdP, outR, calF, consF, nilF, callF, callR, loads, loadR, tstF, tstR, andF, orF, notF, andVF, orVF, notVF, boolR, ifEF, chF, tupF, tupR, vals, lstF, lstR, fnF, Rv.rs, stF, stR, getL, slL, putL, Sl.put, isiI_int, isiB_int, backA]
theorem row_tup {l : List P} : Fis_row [.val (.tup l)] = .ok (.val (.bl true)) [.val (.tup l)] := by
  unfold Fis_row Bis_row
  simp [seqF, skipF, ifF, retF, retR, setF, setR, parF, asgF, asgR, dropF, Out.bind, cF, varF, valF, takeF, takeR, binF, op2, op1, unF, opN, rds, rdP, outR, calF, consF, nilF, callF, callR, loads, loadR, tstF, tstR, andF, orF, notF, andVF, orVF, notVF, boolR, ifEF, chF, tupF, tupR, vals, lstF, lstR, fnF, Rv.rs, stF, stR, getL, slL, putL, Sl.put, isiR_tup, backA]
theorem row_lst {l : List P} : Fis_row [.val (.lst l)] = .ok (.val (.bl true)) [.val (.lst l)] := by
  unfold Fis_row Bis_row
  simp [seqF, skipF, ifF, retF, retR, setF, setR, parF, asgF, asgR, dropF, Out.bind, cF, varF, valF, takeF, takeR, binF, op2, op1, unF, opN, rds, rdP, outR, calF, consF, nilF, callF, callR, loads, loadR, tstF, tstR, andF, orF, notF, andVF, orVF, notVF, boolR, ifEF, chF, tupF, tupR, vals, lstF, lstR, fnF, Rv.rs, stF, stR, getL, slL, putL, Sl.put, isiR_lst, backA]
theorem isfr_ok {x y : Int} (hx : Sm x) (hy : Sm y) (h : 1 ≤ y) : Fis_fraction [.val (fr (x, y))] = .ok (.val (.bl (decide (red x y = (x, y))))) [.val (fr (x, y))] := by
  have hr := reduced_ok hx hy h
  have he := eqP_fr (p := red x y) (q := (x, y))
  generalize red x y = r at *
  have h1 : ¬ y < 1 := by omega
  unfold Fis_fraction Bis_fraction
  unfold fr at hr he ⊢
  simp [seqF, skipF, ifF, retF, retR, setF, setR, parF, asgF, asgR, dropF, Out.bind, cF, varF, valF, takeF, takeR, binF, op2, op1, unF, opN, rds, rdP, outR, calF, consF, nilF, callF, callR, loads, loadR, tstF, tstR, andF, orF, notF, andVF, orVF, notVF, boolR, ifEF, chF, tupF, tupR, vals, lstF, lstR, fnF, Rv.rs, stF, stR, getL, slL, putL, Sl.put, row_tup, whole_int, ix0, ix1, h1, hr, he, backA, storeA, findL]
theorem ixl0 {a b : P} : ixP (.lst [a, b]) (.int 0) = some (.val a) := rfl
theorem ixl1 {a b : P} : ixP (.lst [a, b]) (.int 1) = some (.val b) := rfl
theorem isfrL_ok {x y : Int} (hx : Sm x) (hy : Sm y) (h : 1 ≤ y) : Fis_fraction [.val (.lst [.int x, .int y])] = .ok (.val (.bl (decide (red x y = (x, y))))) [.val (.lst [.int x, .int y])] := by
  have hr := reduced_ok hx hy h
  have he := eqP_fr (p := red x y) (q := (x, y))
  generalize red x y = r at *
  have h1 : ¬ y < 1 := by omega
  unfold Fis_fraction Bis_fraction
  unfold fr at hr he
  simp [seqF, skipF, ifF, retF, retR, setF, setR, parF, asgF, asgR, dropF, Out.bind, cF, varF, valF, takeF, takeR, binF, op2, op1, unF, opN, rds, rdP, outR, calF, consF, nilF, callF, callR, loads, loadR, tstF, tstR, andF, orF, notF, andVF, orVF, notVF, boolR, ifEF, chF, tupF, tupR, vals, lstF, lstR, fnF, Rv.rs, stF, stR, getL, slL, putL, Sl.put, row_lst, whole_int, ixl0, ixl1, h1, hr, he, backA, storeA, findL]
theorem want_ok {x y : Int} (hx : Sm x) (hy : Sm y) (h : 1 ≤ y) (hr : red x y = (x, y)) : Fwant_fraction [.val (.lst [.int x, .int y])] = .ok (.val (fr (x, y))) [.val (.lst [.int x, .int y])] := by
  have h1 := isfrL_ok hx hy h
  rw [hr] at h1
  unfold Fwant_fraction Bwant_fraction
  simp [seqF, skipF, ifF, retF, retR, setF, setR, parF, asgF, asgR, dropF, Out.bind, cF, varF, valF, takeF, takeR, binF, op2, op1, unF, opN, rds, rdP, outR, calF, consF, nilF, callF, callR, loads, loadR, tstF, tstR, andF, orF, notF, andVF, orVF, notVF, boolR, ifEF, chF, tupF, tupR, vals, lstF, lstR, fnF, Rv.rs, stF, stR, getL, slL, putL, Sl.put, h1, backA, storeA, findL, tupleP, fr]
end PV

set_option maxHeartbeats 2000000
namespace PV
abbrev Q2 := Int × Int
def leq (p q : Q2) : Prop := p.1 * q.2 ≤ q.1 * p.2
instance (p q : Q2) : Decidable (leq p q) := inferInstanceAs (Decidable (_ ≤ _))
theorem leq_trans {p q r : Q2} (hp : 0 < p.2) (hq : 0 < q.2) (hr : 0 < r.2) (h : leq p q) (k : leq q r) : leq p r := by
  unfold leq at *
  have a := Int.mul_le_mul_of_nonneg_right h (show 0 ≤ r.2 by omega)
  have b := Int.mul_le_mul_of_nonneg_right k (show 0 ≤ p.2 by omega)
  have c : q.2 * (p.1 * r.2) ≤ q.2 * (r.1 * p.2) := by
    have e1 : q.2 * (p.1 * r.2) = p.1 * q.2 * r.2 := by rw [Int.mul_comm q.2, Int.mul_right_comm]
    have e2 : q.1 * p.2 * r.2 = q.1 * r.2 * p.2 := Int.mul_right_comm _ _ _
    have e3 : q.2 * (r.1 * p.2) = r.1 * q.2 * p.2 := by rw [Int.mul_comm q.2, Int.mul_right_comm]
    omega
  exact Int.le_of_mul_le_mul_left c hq
theorem leq_total (p q : Q2) : leq p q ∨ leq q p := by unfold leq; omega
theorem leq_refl (p : Q2) : leq p p := by unfold leq; omega
/-- p goes behind all that are not greater -/
def insO (p : Q2) : List Q2 → List Q2
  | [] => [p]
  | q :: t => if leq q p then q :: insO p t else p :: q :: t
def Srt (l : List Q2) : Prop := l.Pairwise leq
def Pos2 (l : List Q2) : Prop := ∀ q ∈ l, 0 < q.2
theorem insO_perm (p : Q2) : ∀ l, (insO p l).Perm (p :: l)
  | [] => List.Perm.refl _
  | q :: t => by
    unfold insO
    split
    · exact ((insO_perm p t).cons q).trans (List.Perm.swap p q t)
    · exact List.Perm.refl _
theorem insO_srt {p : Q2} (hp : 0 < p.2) : ∀ {l : List Q2}, Pos2 l → Srt l → Srt (insO p l)
  | [], _, _ => List.pairwise_singleton _ _
  | q :: t, hl, hs => by
    obtain ⟨h1, h2⟩ := List.pairwise_cons.mp hs
    have hq := hl q List.mem_cons_self
    have ht : Pos2 t := fun x hx => hl x (List.mem_cons_of_mem _ hx)
    unfold insO
    split
    · rename_i h
      refine List.pairwise_cons.mpr ⟨fun x hx => ?_, insO_srt hp ht h2⟩
      rcases List.mem_cons.mp ((insO_perm p t).mem_iff.mp hx) with e | e
      · rw [e]; exact h
      · exact h1 x e
    · rename_i h
      have hpq : leq p q := (leq_total p q).resolve_right h
      refine List.pairwise_cons.mpr ⟨fun x hx => ?_, hs⟩
      rcases List.mem_cons.mp hx with e | e
      · rw [e]; exact hpq
      · exact leq_trans hp hq (ht x e) hpq (h1 x e)
theorem insX_insO {p : Q2} (hp : 0 < p.2) : ∀ {l : List Q2}, Pos2 l → Srt l → insX l (l.filter fun q => decide (leq q p)).length p = insO p l
  | [], _, _ => rfl
  | q :: t, hl, hs => by
    obtain ⟨h1, h2⟩ := List.pairwise_cons.mp hs
    have hq := hl q List.mem_cons_self
    have ht : Pos2 t := fun x hx => hl x (List.mem_cons_of_mem _ hx)
    have ih := insX_insO hp ht h2
    unfold insO
    by_cases h : leq q p
    · rw [if_pos h, List.filter_cons_of_pos (by simpa [seqF, skipF, ifF, retF, retR, setF, setR, parF, asgF, asgR, dropF, Out.bind, cF, varF, valF, takeF, takeR, binF, op2, op1, unF, opN, rds, rdP, outR, calF, consF, nilF, callF, callR, loads, loadR, tstF, tstR, andF, orF, notF, andVF, orVF, notVF, boolR, ifEF, chF, tupF, tupR, vals, lstF, lstR, fnF, Rv.rs, stF, stR, getL, slL, putL, Sl.put] using h), ← ih]
      rfl
    · rw [if_neg h, List.filter_cons_of_neg (by simpa [seqF, skipF, ifF, retF, retR, setF, setR, parF, asgF, asgR, dropF, Out.bind, cF, varF, valF, takeF, takeR, binF, op2, op1, unF, opN, rds, rdP, outR, calF, consF, nilF, callF, callR, loads, loadR, tstF, tstR, andF, orF, notF, andVF, orVF, notVF, boolR, ifEF, chF, tupF, tupR, vals, lstF, lstR, fnF, Rv.rs, stF, stR, getL, slL, putL, Sl.put] using h)]
      have e : t.filter (fun q => decide (leq q p)) = [] := by
        apply List.filter_eq_nil_iff.mpr
        intro x hx
        simp only [decide_eq_true_eq]
        exact fun z => h (leq_trans hq (ht x hx) hp (h1 x hx) z)
      rw [e]
      rfl
/-- behind the turns -/
theorem fold_srt : ∀ (l r : List Q2), Pos2 l → Pos2 r → Srt r → Srt (l.foldl (fun r p => insO p r) r) ∧ (l.foldl (fun r p => insO p r) r).Perm (l ++ r)
  | [], r, _, _, hs => ⟨hs, List.Perm.refl _⟩
  | p :: l, r, hl, hr, hs => by
    have hp := hl p List.mem_cons_self
    have ip := insO_perm p r
    have h := fold_srt l (insO p r) (fun x hx => hl x (List.mem_cons_of_mem _ hx)) (fun x hx => by
      rcases List.mem_cons.mp (ip.mem_iff.mp hx) with e | e
      · rw [e]; exact hp
      · exact hr x e) (insO_srt hp hr hs)
    refine ⟨h.1, h.2.trans ?_⟩
    exact ((List.Perm.append_left l ip).trans List.perm_middle)
/-! the middle -/
/-- m lies in the middle of f and s -/
def Mid (f s m : Q2) : Prop := m.1 * (2 * (f.2 * s.2)) = (f.1 * s.2 + s.1 * f.2) * m.2
theorem mid_le {f s m q : Q2} (hf : 0 < f.2) (hs : 0 < s.2) (hm : 0 < m.2) (h : Mid f s m) (h1 : leq f q) (h2 : leq s q) : leq m q := by
  unfold leq Mid at *
  have a := Int.mul_le_mul_of_nonneg_right h1 (show 0 ≤ s.2 by omega)
  have b := Int.mul_le_mul_of_nonneg_right h2 (show 0 ≤ f.2 by omega)
  have hp : 0 < f.2 * s.2 := Int.mul_pos hf hs
  have c : (f.1 * s.2 + s.1 * f.2) * q.2 ≤ 2 * (f.2 * s.2) * q.1 := by
    have e1 : (f.1 * s.2 + s.1 * f.2) * q.2 = f.1 * q.2 * s.2 + s.1 * q.2 * f.2 := by rw [Int.add_mul, Int.mul_right_comm f.1, Int.mul_right_comm s.1]
    have e2 : q.1 * f.2 * s.2 = f.2 * s.2 * q.1 := by rw [Int.mul_assoc, Int.mul_comm]
    have e3 : q.1 * s.2 * f.2 = f.2 * s.2 * q.1 := by rw [Int.mul_right_comm, e2]
    have e4 : 2 * (f.2 * s.2) * q.1 = f.2 * s.2 * q.1 + f.2 * s.2 * q.1 := by rw [Int.mul_assoc, Int.two_mul]
    omega
  have d := Int.mul_le_mul_of_nonneg_right c (show 0 ≤ m.2 by omega)
  have e : (2 * (f.2 * s.2)) * (m.1 * q.2) ≤ (2 * (f.2 * s.2)) * (q.1 * m.2) := by
    have e1 : (2 * (f.2 * s.2)) * (m.1 * q.2) = (f.1 * s.2 + s.1 * f.2) * q.2 * m.2 := by
      rw [← Int.mul_assoc, Int.mul_comm (2 * (f.2 * s.2)) m.1, h, Int.mul_right_comm]
    rw [e1, ← Int.mul_assoc]
    exact d
  exact Int.le_of_mul_le_mul_left e (by omega)
theorem mid_ge {f s m q : Q2} (hf : 0 < f.2) (hs : 0 < s.2) (hm : 0 < m.2) (h : Mid f s m) (h1 : leq q f) (h2 : leq q s) : leq q m := by
  unfold leq Mid at *
  have a := Int.mul_le_mul_of_nonneg_right h1 (show 0 ≤ s.2 by omega)
  have b := Int.mul_le_mul_of_nonneg_right h2 (show 0 ≤ f.2 by omega)
  have hp : 0 < f.2 * s.2 := Int.mul_pos hf hs
  have c : 2 * (f.2 * s.2) * q.1 ≤ (f.1 * s.2 + s.1 * f.2) * q.2 := by
    have e1 : (f.1 * s.2 + s.1 * f.2) * q.2 = f.1 * q.2 * s.2 + s.1 * q.2 * f.2 := by rw [Int.add_mul, Int.mul_right_comm f.1, Int.mul_right_comm s.1]
    have e2 : q.1 * f.2 * s.2 = f.2 * s.2 * q.1 := by rw [Int.mul_assoc, Int.mul_comm]
    have e3 : q.1 * s.2 * f.2 = f.2 * s.2 * q.1 := by rw [Int.mul_right_comm, e2]
    have e4 : 2 * (f.2 * s.2) * q.1 = f.2 * s.2 * q.1 + f.2 * s.2 * q.1 := by rw [Int.mul_assoc, Int.two_mul]
    omega
  have d := Int.mul_le_mul_of_nonneg_right c (show 0 ≤ m.2 by omega)
  have e : (2 * (f.2 * s.2)) * (q.1 * m.2) ≤ (2 * (f.2 * s.2)) * (m.1 * q.2) := by
    have e1 : (2 * (f.2 * s.2)) * (m.1 * q.2) = (f.1 * s.2 + s.1 * f.2) * q.2 * m.2 := by
      rw [← Int.mul_assoc, Int.mul_comm (2 * (f.2 * s.2)) m.1, h, Int.mul_right_comm]
    rw [e1, ← Int.mul_assoc]
    exact d
  exact Int.le_of_mul_le_mul_left e (by omega)
end PV

set_option maxHeartbeats 2000000
namespace PV
/-! reduced fractions -/
theorem red_val {a b : Int} (h : 1 ≤ b) : (red a b).1 * b = a * (red a b).2 := by
  have hg := gcd_pos (a := a) h
  have hd := Int.gcd_dvd_right a b
  have hd2 := Int.gcd_dvd_left a b
  unfold red
  generalize (Int.gcd a b : Int) = g at *
  obtain ⟨k, hk⟩ := hd
  obtain ⟨j, hj⟩ := hd2
  subst hk hj
  simp only [Int.mul_ediv_cancel_left _ (show g ≠ 0 by omega)]
  rw [Int.mul_comm g j, Int.mul_assoc]
theorem red_bot {a b : Int} (h : 1 ≤ b) : 1 ≤ (red a b).2 := (red_fb (X := a.natAbs) (Y := b) (by unfold Ab; omega) h (Int.le_refl _)).2.1
theorem red_cop {a b : Int} (h : 1 ≤ b) : Int.gcd (red a b).1 (red a b).2 = 1 := by
  have hg : 0 < Int.gcd a b := Int.gcd_pos_of_ne_zero_right a (by omega)
  exact Int.gcd_ediv_gcd_ediv_gcd hg
theorem cop_dvd {a b c : Int} (h : a ∣ b * c) (hc : Int.gcd a b = 1) : a ∣ c := by
  have e := Int.gcd_mul_left_right_of_gcd_eq_one (k := c) hc
  have d : a ∣ (Int.gcd a (c * b) : Int) := Int.dvd_coe_gcd (Int.dvd_refl a) (by rw [Int.mul_comm]; exact h)
  rw [e] at d
  exact Int.dvd_trans d (Int.gcd_dvd_right a c)
theorem cop_uniq {p q : Q2} (hp : Int.gcd p.1 p.2 = 1) (hq : Int.gcd q.1 q.2 = 1) (h1 : 1 ≤ p.2) (h2 : 1 ≤ q.2) (e : p.1 * q.2 = q.1 * p.2) : p = q := by
  have d1 : p.2 ∣ q.2 := by
    have : p.2 ∣ p.1 * q.2 := by rw [e]; exact Int.dvd_mul_left _ _
    exact cop_dvd this (by rw [Int.gcd_comm]; exact hp)
  have d2 : q.2 ∣ p.2 := by
    have : q.2 ∣ q.1 * p.2 := by rw [← e]; exact Int.dvd_mul_left _ _
    exact cop_dvd this (by rw [Int.gcd_comm]; exact hq)
  have l1 := Int.le_of_dvd (by omega) d1
  have l2 := Int.le_of_dvd (by omega) d2
  have e2 : p.2 = q.2 := by omega
  have e1 : p.1 = q.1 := by
    rw [e2] at e
    exact Int.eq_of_mul_eq_mul_right (by omega) e
  exact Prod.ext e1 e2
theorem red_uniq {a b : Int} {p : Q2} (h : 1 ≤ b) (hp : Int.gcd p.1 p.2 = 1) (h1 : 1 ≤ p.2) (e : a * p.2 = p.1 * b) : red a b = p := by
  refine cop_uniq (red_cop h) hp (red_bot h) h1 ?_
  have hv := red_val (a := a) h
  have : b * ((red a b).1 * p.2) = b * (p.1 * (red a b).2) := by
    have e1 : b * ((red a b).1 * p.2) = (red a b).1 * b * p.2 := by rw [Int.mul_comm b, Int.mul_right_comm]
    have e2 : a * (red a b).2 * p.2 = a * p.2 * (red a b).2 := Int.mul_right_comm _ _ _
    have e3 : b * (p.1 * (red a b).2) = p.1 * b * (red a b).2 := by rw [Int.mul_comm b, Int.mul_right_comm]
    rw [e1, hv, e2, e, e3]
  exact Int.eq_of_mul_eq_mul_left (by omega) this
theorem red_idem {p : Q2} (hp : Int.gcd p.1 p.2 = 1) (h1 : 1 ≤ p.2) : red p.1 p.2 = p := red_uniq h1 hp h1 rfl
def addF (p q : Q2) : Q2 := red (p.1 * q.2 + q.1 * p.2) (p.2 * q.2)
/-- the middle of two -/
def midF (f s : Q2) : Q2 := red ((addF f s).1 * 1) ((addF f s).2 * 2)
theorem midF_bot {f s : Q2} (hf : 1 ≤ f.2) (hs : 1 ≤ s.2) : 1 ≤ (midF f s).2 := red_bot (by have := red_bot (a := f.1 * s.2 + s.1 * f.2) (one_mul_pos hf hs); show 1 ≤ (addF f s).2 * 2; unfold addF; omega)
theorem midF_mid {f s : Q2} (hf : 1 ≤ f.2) (hs : 1 ≤ s.2) : Mid f s (midF f s) := by
  have h1 := red_val (a := f.1 * s.2 + s.1 * f.2) (one_mul_pos hf hs)
  have b1 := red_bot (a := f.1 * s.2 + s.1 * f.2) (one_mul_pos hf hs)
  have h2 := red_val (a := (addF f s).1 * 1) (b := (addF f s).2 * 2) (by unfold addF; omega)
  unfold Mid
  show (midF f s).1 * _ = _ * (midF f s).2
  change (midF f s).1 * ((addF f s).2 * 2) = (addF f s).1 * 1 * (midF f s).2 at h2
  change (addF f s).1 * (f.2 * s.2) = (f.1 * s.2 + s.1 * f.2) * (addF f s).2 at h1
  generalize midF f s = m at *
  change 1 ≤ (addF f s).2 at b1
  generalize addF f s = t at *
  generalize f.1 * s.2 + s.1 * f.2 = A at *
  generalize f.2 * s.2 = B at *
  have : t.2 * (m.1 * (2 * B)) = t.2 * (A * m.2) := by
    have e1 : t.2 * (m.1 * (2 * B)) = m.1 * (t.2 * 2) * B := by simp only [Int.mul_assoc, Int.mul_comm, Int.mul_left_comm]
    have e2 : t.1 * 1 * m.2 * B = t.1 * B * m.2 := by rw [Int.mul_one, Int.mul_right_comm]
    have e3 : t.2 * (A * m.2) = A * t.2 * m.2 := by rw [Int.mul_comm t.2, Int.mul_right_comm]
    rw [e1, h2, e2, h1, e3]
  exact Int.eq_of_mul_eq_mul_left (by omega) this
theorem midF_self {f : Q2} (hf : 1 ≤ f.2) (hc : Int.gcd f.1 f.2 = 1) : midF f f = f := by
  refine cop_uniq (red_cop (by have := red_bot (a := f.1 * f.2 + f.1 * f.2) (one_mul_pos hf hf); show 1 ≤ (addF f f).2 * 2; unfold addF; omega)) hc (midF_bot hf hf) hf ?_
  have h := midF_mid hf hf
  unfold Mid at h
  generalize midF f f = m at *
  have : (2 * f.2) * (m.1 * f.2) = (2 * f.2) * (f.1 * m.2) := by
    have e1 : (2 * f.2) * (m.1 * f.2) = m.1 * (2 * (f.2 * f.2)) := by rw [Int.mul_comm (2 * f.2), Int.mul_assoc, Int.mul_comm f.2 (2 * f.2), Int.mul_assoc]
    have e2 : (f.1 * f.2 + f.1 * f.2) * m.2 = (2 * f.2) * (f.1 * m.2) := by rw [← Int.two_mul, Int.mul_comm f.1, ← Int.mul_assoc 2, Int.mul_assoc]
    rw [e1, h, e2]
  exact Int.eq_of_mul_eq_mul_left (by omega) this
/-! what lies below, above the middle -/
theorem getS {l : List Q2} (hs : Srt l) {i j : Nat} (hi : i < l.length) (hj : j < l.length) (h : i ≤ j) : leq l[i] l[j] := by
  rcases Nat.lt_or_eq_of_le h with h | h
  · exact List.pairwise_iff_getElem.mp hs i j hi hj h
  · subst h; exact leq_refl _
theorem below_le {l : List Q2} {f s m : Q2} (hs : Srt l) (hl : Pos2 l) (hn : 0 < l.length) (e1 : l[(l.length - 1) / 2]? = some f) (e2 : l[l.length / 2]? = some s) (hm : 1 ≤ m.2) (hM : Mid f s m) :
    2 * (l.filter fun q => decide (q.1 * m.2 < m.1 * q.2)).length ≤ l.length ∧ 2 * (l.filter fun q => decide (m.1 * q.2 < q.1 * m.2)).length ≤ l.length := by
  obtain ⟨i1, f1⟩ := List.getElem?_eq_some_iff.mp e1
  obtain ⟨i2, f2⟩ := List.getElem?_eq_some_iff.mp e2
  have hf := hl f (by rw [← f1]; exact List.getElem_mem _)
  have hs2 := hl s (by rw [← f2]; exact List.getElem_mem _)
  have hfs : leq f s := by rw [← f1, ← f2]; exact getS hs i1 i2 (by omega)
  constructor
  · have h0 : (l.drop (l.length / 2)).filter (fun q => decide (q.1 * m.2 < m.1 * q.2)) = [] := by
      apply List.filter_eq_nil_iff.mpr
      intro q hq
      obtain ⟨k, hk, ek⟩ := List.mem_iff_getElem.mp hq
      rw [List.getElem_drop] at ek
      have hk' : l.length / 2 + k < l.length := by rw [List.length_drop] at hk; omega
      have h2 : leq s q := by rw [← f2, ← ek]; exact getS hs i2 hk' (by omega)
      have hqp := hl q (by rw [← ek]; exact List.getElem_mem _)
      have := mid_le hf hs2 (by omega) hM (leq_trans hf hs2 hqp hfs h2) h2
      unfold leq at this
      simp only [decide_eq_true_eq]
      omega
    have h1 : (l.filter fun q => decide (q.1 * m.2 < m.1 * q.2)).length ≤ l.length / 2 := by
      conv => lhs; rw [← List.take_append_drop (l.length / 2) l]
      rw [List.filter_append, h0, List.append_nil]
      exact Nat.le_trans (List.length_filter_le _ _) (by rw [List.length_take]; omega)
    omega
  · have h0 : (l.take ((l.length - 1) / 2 + 1)).filter (fun q => decide (m.1 * q.2 < q.1 * m.2)) = [] := by
      apply List.filter_eq_nil_iff.mpr
      intro q hq
      obtain ⟨k, hk, ek⟩ := List.mem_iff_getElem.mp hq
      rw [List.getElem_take] at ek
      have hk2 : k ≤ (l.length - 1) / 2 := by rw [List.length_take] at hk; omega
      have hk' : k < l.length := by omega
      have h1 : leq q f := by rw [← f1, ← ek]; exact getS hs hk' i1 hk2
      have hqp := hl q (by rw [← ek]; exact List.getElem_mem _)
      have := mid_ge hf hs2 (by omega) hM h1 (leq_trans hqp hf hs2 h1 hfs)
      unfold leq at this
      simp only [decide_eq_true_eq]
      omega
    have h1 : (l.filter fun q => decide (m.1 * q.2 < q.1 * m.2)).length ≤ l.length - ((l.length - 1) / 2 + 1) := by
      conv => lhs; rw [← List.take_append_drop ((l.length - 1) / 2 + 1) l]
      rw [List.filter_append, h0, List.nil_append]
      exact Nat.le_trans (List.length_filter_le _ _) (by rw [List.length_drop]; omega)
    omega
end PV

set_option maxHeartbeats 2000000
namespace PV
open PySem L2
def NL (x : Sl) : Prop := ∀ o, x ≠ .loan o
theorem nl_val {p : P} : NL (.val p) := fun o z => by cases z
theorem nl_no : NL .no := fun o z => by cases z
def Chain : Q2 → List Q2 → Prop
  | acc, [] => Sb acc
  | acc, p :: l => Sb acc ∧ Sb p ∧ acc.2 * p.2 ≤ 6000000 ∧ Chain (addF acc p) l
theorem loop_total {L : Sl} : ∀ (l : List Q2) (acc : Q2) (x2 : Sl), NL x2 → Chain acc l → ∃ x2', loopF (nameT 2) (setF 1 (callF (Fplus) (consF (valF (takeF (varF 1))) (consF (valF (takeF (varF 2))) (nilF))))) (l.map fr) [L, .val (fr acc), x2] = .ok .nx [L, .val (fr (l.foldl addF acc)), x2']
  | [], acc, x2, _, _ => ⟨x2, rfl⟩
  | p :: l, acc, x2, hx, hc => by
    obtain ⟨h1, h2, _, h3⟩ := hc
    obtain ⟨x', ih⟩ := loop_total l (addF acc p) (.val (fr p)) nl_val h3
    refine ⟨x', ?_⟩
    rw [List.map_cons, List.foldl_cons, ← ih]
    have hp := plus_ok h1 h2
    have ht : nameT 2 (fr p) [L, .val (fr acc), x2] = some [L, .val (fr acc), .val (fr p)] := by
      cases x2 with
      | loan o => exact absurd rfl (hx o)
      | _ => rfl
    conv => lhs; unfold loopF
    simp only [ht]
    simp [seqF, skipF, ifF, retF, retR, setF, setR, parF, asgF, asgR, dropF, Out.bind, cF, varF, valF, takeF, takeR, binF, op2, op1, unF, opN, rds, rdP, outR, calF, consF, nilF, callF, callR, loads, loadR, tstF, tstR, andF, orF, notF, andVF, orVF, notVF, boolR, ifEF, chF, tupF, tupR, vals, lstF, lstR, fnF, Rv.rs, stF, stR, getL, slL, putL, Sl.put, hp, storeA, findL]
    rfl
theorem total_ok {l : List Q2} (hc : Chain (0, 1) l) : Ftotal [.val (.lst (l.map fr))] = .ok (.val (fr (l.foldl addF (0, 1)))) [.val (.lst (l.map fr))] := by
  obtain ⟨x', h⟩ := loop_total (L := .val (.lst (l.map fr))) l (0, 1) .no nl_no hc
  have e : fr (0, 1) = .tup [.int 0, .int 1] := rfl
  rw [e] at h
  unfold Ftotal Btotal
  simp [seqF, skipF, ifF, retF, retR, setF, setR, parF, asgF, asgR, dropF, Out.bind, cF, varF, valF, takeF, takeR, binF, op2, op1, unF, opN, rds, rdP, outR, calF, consF, nilF, callF, callR, loads, loadR, tstF, tstR, andF, orF, notF, andVF, orVF, notVF, boolR, ifEF, chF, tupF, tupR, vals, lstF, lstR, fnF, Rv.rs, stF, stR, getL, slL, putL, Sl.put, forF, itF, itR, seqItems, h, backA]
theorem lcO_run {L : Sl} {R : List P} {p : Q2} {x3 x4 x5 : Sl} {π0 : En} (hp : Sb p) : ∀ (l : List Q2) (acc : List P), (∀ q ∈ l, Sb q) →
    lcLoopO 1 R (nameT 6) (notF (tstF (callF (Fis_less) (consF (valF (takeF (varF 2))) (consF (valF (takeF (varF 6))) (nilF)))))) (takeF (varF 6)) [6] π0 (l.map fr) acc [L, .own (.lst R), .val (fr p), x3, x4, x5, .no]
      = .ok (.own (.lst (acc ++ (l.filter fun q => decide (leq q p)).map fr))) (restE π0 [L, .own (.lst R), .val (fr p), x3, x4, x5, .no] [6])
  | [], acc, _ => by simp [seqF, skipF, ifF, retF, retR, setF, setR, parF, asgF, asgR, dropF, Out.bind, cF, varF, valF, takeF, takeR, binF, op2, op1, unF, opN, rds, rdP, outR, calF, consF, nilF, callF, callR, loads, loadR, tstF, tstR, andF, orF, notF, andVF, orVF, notVF, boolR, ifEF, chF, tupF, tupR, vals, lstF, lstR, fnF, Rv.rs, stF, stR, getL, slL, putL, Sl.put, lcLoopO]
  | q :: l, acc, hl => by
    have hq := hl q List.mem_cons_self
    have hless := less_ok hp hq
    rw [List.map_cons]
    unfold lcLoopO
    by_cases h : leq q p
    · have ih := lcO_run (L := L) (R := R) (x3 := x3) (x4 := x4) (x5 := x5) (π0 := π0) hp l (acc ++ [fr q]) fun x hx => hl x (List.mem_cons_of_mem _ hx)
      have h' : ¬ p.1 * q.2 < q.1 * p.2 := by unfold leq at h; omega
      simp [seqF, skipF, ifF, retF, retR, setF, setR, parF, asgF, asgR, dropF, Out.bind, cF, varF, valF, takeF, takeR, binF, op2, op1, unF, opN, rds, rdP, outR, calF, consF, nilF, callF, callR, loads, loadR, tstF, tstR, andF, orF, notF, andVF, orVF, notVF, boolR, ifEF, chF, tupF, tupR, vals, lstF, lstR, fnF, Rv.rs, stF, stR, getL, slL, putL, Sl.put, nameT, hless, h', chk, wipeE, storeA, findL, h]
      rw [ih]
      simp [seqF, skipF, ifF, retF, retR, setF, setR, parF, asgF, asgR, dropF, Out.bind, cF, varF, valF, takeF, takeR, binF, op2, op1, unF, opN, rds, rdP, outR, calF, consF, nilF, callF, callR, loads, loadR, tstF, tstR, andF, orF, notF, andVF, orVF, notVF, boolR, ifEF, chF, tupF, tupR, vals, lstF, lstR, fnF, Rv.rs, stF, stR, getL, slL, putL, Sl.put]
    · have ih := lcO_run (L := L) (R := R) (x3 := x3) (x4 := x4) (x5 := x5) (π0 := π0) hp l acc fun x hx => hl x (List.mem_cons_of_mem _ hx)
      have h' : p.1 * q.2 < q.1 * p.2 := by unfold leq at h; omega
      simp [seqF, skipF, ifF, retF, retR, setF, setR, parF, asgF, asgR, dropF, Out.bind, cF, varF, valF, takeF, takeR, binF, op2, op1, unF, opN, rds, rdP, outR, calF, consF, nilF, callF, callR, loads, loadR, tstF, tstR, andF, orF, notF, andVF, orVF, notVF, boolR, ifEF, chF, tupF, tupR, vals, lstF, lstR, fnF, Rv.rs, stF, stR, getL, slL, putL, Sl.put, nameT, hless, h', chk, wipeE, storeA, findL, h]
      exact ih
noncomputable abbrev medBody : M Fl := seqF (setF 3 (calF lenP (consF (lcOF 1 (nameT 6) (notF (tstF (callF (Fis_less) (consF (valF (takeF (varF 2))) (consF (valF (takeF (varF 6))) (nilF)))))) (takeF (varF 6)) [6]) (nilF)))) (dropF (mutF insP 1 (consF (valF (takeF (varF 3))) (consF (valF (takeF (varF 2))) (nilF)))))
theorem insX_map {l : List Q2} {k : Nat} {p : Q2} : insX (l.map fr) k (fr p) = (insX l k p).map fr := by
  unfold insX
  rw [List.map_append, List.map_cons, List.map_take, List.map_drop]
theorem med_turn {L x3 : Sl} {r : List Q2} {p : Q2} (h3 : NL x3) (hp : Sb p) (hr : ∀ q ∈ r, Sb q) (hs : Srt r) (hn : r.length ≤ 1000) :
    ∃ x3', NL x3' ∧ medBody [L, .own (.lst (r.map fr)), .val (fr p), x3, .no, .no, .no] = .ok .nx [L, .own (.lst ((insO p r).map fr)), .val (fr p), x3', .no, .no, .no] := by
  have hlc := lcO_run (L := L) (R := r.map fr) (x3 := x3) (x4 := .no) (x5 := .no) (π0 := [L, .own (.lst (r.map fr)), .val (fr p), x3, .no, .no, .no]) hp r [] hr
  have hi := insX_insO (p := p) (l := r) (by have := hp.2.1; omega) (fun q hq => by have := (hr q hq).2.1; omega) hs
  have hk : (r.filter fun q => decide (leq q p)).length ≤ r.length := List.length_filter_le _ _
  refine ⟨.val (.int (r.filter fun q => decide (leq q p)).length), nl_val, ?_⟩
  generalize hkk : (r.filter fun q => decide (leq q p)).length = k at *
  have hins : insP (r.map fr) [.int (k : Int), fr p] = some (.non, (insO p r).map fr) := by
    show (if 0 ≤ (k : Int) ∧ (k : Int) ≤ 1000000 ∧ (r.map fr).length ≤ 1000000 then some (P.non, insX (r.map fr) (k : Int).toNat (fr p)) else none) = _
    rw [if_pos ⟨by omega, by omega, by rw [List.length_map]; omega⟩]
    rw [Int.toNat_natCast, insX_map, hi]
  have hlc2 : lcOF 1 (nameT 6) (notF (tstF (callF (Fis_less) (consF (valF (takeF (varF 2))) (consF (valF (takeF (varF 6))) (nilF)))))) (takeF (varF 6)) [6] [L, .own (.lst (r.map fr)), .val (fr p), x3, .no, .no, .no] = .ok (.own (.lst ((r.filter fun q => decide (leq q p)).map fr))) [L, .own (.lst (r.map fr)), .val (fr p), x3, .no, .no, .no] := by
    unfold lcOF
    simp [seqF, skipF, ifF, retF, retR, setF, setR, parF, asgF, asgR, dropF, Out.bind, cF, varF, valF, takeF, takeR, binF, op2, op1, unF, opN, rds, rdP, outR, calF, consF, nilF, callF, callR, loads, loadR, tstF, tstR, andF, orF, notF, andVF, orVF, notVF, boolR, ifEF, chF, tupF, tupR, vals, lstF, lstR, fnF, Rv.rs, stF, stR, getL, slL, putL, Sl.put, chk, wipeE]
    rw [hlc]
    simp [seqF, skipF, ifF, retF, retR, setF, setR, parF, asgF, asgR, dropF, Out.bind, cF, varF, valF, takeF, takeR, binF, op2, op1, unF, opN, rds, rdP, outR, calF, consF, nilF, callF, callR, loads, loadR, tstF, tstR, andF, orF, notF, andVF, orVF, notVF, boolR, ifEF, chF, tupF, tupR, vals, lstF, lstR, fnF, Rv.rs, stF, stR, getL, slL, putL, Sl.put, restE]
  have hset : ∀ v, setR 3 (.val v) [L, .own (.lst (r.map fr)), .val (fr p), x3, .no, .no, .no] = .ok .nx [L, .own (.lst (r.map fr)), .val (fr p), .val v, .no, .no, .no] := fun v => by
    cases x3 with
    | loan o => exact absurd rfl (h3 o)
    | _ => rfl
  unfold medBody
  simp only [seqF, setF, calF, consF, nilF, Out.bind, hlc2, opN, rds, rdP, toP_lst, lenP_lst, outR, Rv.rs, List.length_map, hkk, hset]
  simp [seqF, skipF, ifF, retF, retR, setF, setR, parF, asgF, asgR, dropF, Out.bind, cF, varF, valF, takeF, takeR, binF, op2, op1, unF, opN, rds, rdP, outR, calF, consF, nilF, callF, callR, loads, loadR, tstF, tstR, andF, orF, notF, andVF, orVF, notVF, boolR, ifEF, chF, tupF, tupR, vals, lstF, lstR, fnF, Rv.rs, stF, stR, getL, slL, putL, Sl.put, mutF, mutR, hins]
theorem med_loop {L : Sl} : ∀ (l r : List Q2) (x2 x3 : Sl), NL x2 → NL x3 → (∀ q ∈ l, Sb q) → (∀ q ∈ r, Sb q) → Srt r → r.length + l.length ≤ 1000 →
    ∃ x2' x3', NL x2' ∧ NL x3' ∧ loopF (nameT 2) medBody (l.map fr) [L, .own (.lst (r.map fr)), x2, x3, .no, .no, .no] = .ok .nx [L, .own (.lst ((l.foldl (fun r p => insO p r) r).map fr)), x2', x3', .no, .no, .no]
  | [], r, x2, x3, h2, h3, _, _, _, _ => ⟨x2, x3, h2, h3, rfl⟩
  | p :: l, r, x2, x3, h2, h3, hl, hr, hs, hn => by
    have hp := hl p List.mem_cons_self
    have ip := insO_perm p r
    rw [List.length_cons] at hn
    obtain ⟨x3', n3, ht⟩ := med_turn (L := L) h3 hp hr hs (by omega)
    obtain ⟨y2, y3, m2, m3, ih⟩ := med_loop (L := L) l (insO p r) (.val (fr p)) x3' nl_val n3 (fun q hq => hl q (List.mem_cons_of_mem _ hq)) (fun q hq => by
      rcases List.mem_cons.mp (ip.mem_iff.mp hq) with e | e
      · rw [e]; exact hp
      · exact hr q e) (insO_srt (by have := hp.2.1; omega) (fun q hq => by have := (hr q hq).2.1; omega) hs) (by rw [ip.length_eq, List.length_cons]; omega)
    refine ⟨y2, y3, m2, m3, ?_⟩
    have hn2 : nameT 2 (fr p) [L, .own (.lst (r.map fr)), x2, x3, .no, .no, .no] = some [L, .own (.lst (r.map fr)), .val (fr p), x3, .no, .no, .no] := by
      cases x2 with
      | loan o => exact absurd rfl (h2 o)
      | _ => rfl
    rw [List.map_cons, List.foldl_cons]
    unfold loopF
    simp only [hn2, ht, Out.bind]
    exact ih
theorem slice1 {a : P} {l : List P} : slP (.lst (a :: l)) (some 1) none = some (.own (.lst l)) := by
  simp [seqF, skipF, ifF, retF, retR, setF, setR, parF, asgF, asgR, dropF, Out.bind, cF, varF, valF, takeF, takeR, binF, op2, op1, unF, opN, rds, rdP, outR, calF, consF, nilF, callF, callR, loads, loadR, tstF, tstR, andF, orF, notF, andVF, orVF, notVF, boolR, ifEF, chF, tupF, tupR, vals, lstF, lstR, fnF, Rv.rs, stF, stR, getL, slL, putL, Sl.put, slP, cutP, HT.sIx]
def sortQ : List Q2 → List Q2
  | [] => []
  | a :: l => l.foldl (fun r p => insO p r) [a]
theorem median_ok {a : Q2} {l : List Q2} {f s : Q2} (hl : ∀ q ∈ a :: l, Sb q) (hn : l.length ≤ 100) (hlen : (sortQ (a :: l)).length = l.length + 1)
    (e1 : (sortQ (a :: l))[l.length / 2]? = some f) (e2 : (sortQ (a :: l))[(l.length + 1) / 2]? = some s) (hf : Sb f) (hs : Sb s) (hfs : Sb (addF f s)) :
    Fmedian [.val (.lst ((a :: l).map fr))] = .ok (.val (fr (midF f s))) [.val (.lst ((a :: l).map fr))] := by
  obtain ⟨x2, x3, n2, n3, hm⟩ := med_loop (L := .val (.lst ((a :: l).map fr))) l [a] .no .no nl_no nl_no (fun q hq => hl q (List.mem_cons_of_mem _ hq)) (fun q hq => by
    have : q = a := by simpa [seqF, skipF, ifF, retF, retR, setF, setR, parF, asgF, asgR, dropF, Out.bind, cF, varF, valF, takeF, takeR, binF, op2, op1, unF, opN, rds, rdP, outR, calF, consF, nilF, callF, callR, loads, loadR, tstF, tstR, andF, orF, notF, andVF, orVF, notVF, boolR, ifEF, chF, tupF, tupR, vals, lstF, lstR, fnF, Rv.rs, stF, stR, getL, slL, putL, Sl.put] using hq
    rw [this]; exact hl a List.mem_cons_self) (List.pairwise_singleton _ _) (by simp [seqF, skipF, ifF, retF, retR, setF, setR, parF, asgF, asgR, dropF, Out.bind, cF, varF, valF, takeF, takeR, binF, op2, op1, unF, opN, rds, rdP, outR, calF, consF, nilF, callF, callR, loads, loadR, tstF, tstR, andF, orF, notF, andVF, orVF, notVF, boolR, ifEF, chF, tupF, tupR, vals, lstF, lstR, fnF, Rv.rs, stF, stR, getL, slL, putL, Sl.put]; omega)
  have hplus := plus_ok hf hs
  have htimes := times_ok (p := addF f s) (q := (1, 2)) hfs ⟨⟨by decide, by decide⟩, by decide, by decide⟩
  have e0 : ixP (.lst ((a :: l).map fr)) (.int 0) = some (.val (fr a)) := by
    show (atI ((a :: l).map fr) 0).map _ = _
    rw [atI_ok (x := fr a) (by decide) (by decide) rfl]; rfl
  have ix : ∀ (k : Nat) (q : Q2), k ≤ 1000 → (sortQ (a :: l))[k]? = some q → ixP (.lst ((sortQ (a :: l)).map fr)) (.int (k : Int)) = some (.val (fr q)) := fun k q hk e => by
    show (atI ((sortQ (a :: l)).map fr) (k : Int)).map _ = _
    rw [atI_ok (x := fr q) (by omega) (by omega) (by rw [Int.toNat_natCast, List.getElem?_map, e]; rfl)]; rfl
  have i1 := ix _ f (by omega) e1
  have i2 := ix _ s (by omega) e2
  have s2 : Sm 2 := by unfold Sm; omega
  have d1 : (l.length : Int) / 2 = ((l.length / 2 : Nat) : Int) := by omega
  have d2 : ((l.length : Int) + 1) / 2 = (((l.length + 1) / 2 : Nat) : Int) := by omega
  rw [← d1] at i1
  rw [← d2] at i2
  unfold Fmedian Bmedian
  have hsl : slF (varF 0) (inP (cF (.int 1))) noP [.val (.lst ((a :: l).map fr)), .own (.lst [fr a]), .no, .no, .no, .no, .no] = .ok (.own (.lst (l.map fr))) [.val (.lst ((a :: l).map fr)), .own (.lst [fr a]), .no, .no, .no, .no, .no] := by
    simp [seqF, skipF, ifF, retF, retR, setF, setR, parF, asgF, asgR, dropF, Out.bind, cF, varF, valF, takeF, takeR, binF, op2, op1, unF, opN, rds, rdP, outR, calF, consF, nilF, callF, callR, loads, loadR, tstF, tstR, andF, orF, notF, andVF, orVF, notVF, boolR, ifEF, chF, tupF, tupR, vals, lstF, lstR, fnF, Rv.rs, stF, stR, getL, slL, putL, Sl.put, slF, inP, noP, slR, List.map_cons, slice1]
  have hfor : forF (itF (takeF (slF (varF 0) (inP (cF (.int 1))) noP))) (nameT 2) medBody [.val (.lst ((a :: l).map fr)), .own (.lst [fr a]), .no, .no, .no, .no, .no] = .ok .nx [.val (.lst ((a :: l).map fr)), .own (.lst ((sortQ (a :: l)).map fr)), x2, x3, .no, .no, .no] := by
    unfold forF itF takeF
    simp only [hsl, Out.bind, takeR, toP_lst, itR, seqItems]
    exact hm
  have hlp : lenP [.lst ((sortQ (a :: l)).map fr)] = some (.val (.int ((l.length : Int) + 1))) := by
    rw [lenP_lst, List.length_map, hlen]
    simp [seqF, skipF, ifF, retF, retR, setF, setR, parF, asgF, asgR, dropF, Out.bind, cF, varF, valF, takeF, takeR, binF, op2, op1, unF, opN, rds, rdP, outR, calF, consF, nilF, callF, callR, loads, loadR, tstF, tstR, andF, orF, notF, andVF, orVF, notVF, boolR, ifEF, chF, tupF, tupR, vals, lstF, lstR, fnF, Rv.rs, stF, stR, getL, slL, putL, Sl.put]
  have hset : setF 1 (lstF (consF (binF ixP (varF 0) (cF (.int 0))) nilF)) [.val (.lst ((a :: l).map fr)), .no, .no, .no, .no, .no, .no] = .ok .nx [.val (.lst ((a :: l).map fr)), .own (.lst [fr a]), .no, .no, .no, .no, .no] := by
    simp only [List.map_cons] at e0 ⊢
    simp [seqF, skipF, ifF, retF, retR, setF, setR, parF, asgF, asgR, dropF, Out.bind, cF, varF, valF, takeF, takeR, binF, op2, op1, unF, opN, rds, rdP, outR, calF, consF, nilF, callF, callR, loads, loadR, tstF, tstR, andF, orF, notF, andVF, orVF, notVF, boolR, ifEF, chF, tupF, tupR, vals, lstF, lstR, fnF, Rv.rs, stF, stR, getL, slL, putL, Sl.put, e0]
  generalize (sortQ (a :: l)).map fr = S at *
  generalize (.lst ((a :: l).map fr) : P) = LL at *
  simp only [fnF, List.cons_append, List.nil_append, List.replicate]
  simp only [seqF, hset, Out.bind, hfor]
  have one2 : (P.tup [.int 1, .int 2]) = fr (1, 2) := rfl
  simp [seqF, skipF, ifF, retF, retR, setF, setR, parF, asgF, asgR, dropF, Out.bind, cF, varF, valF, takeF, takeR, binF, op2, op1, unF, opN, rds, rdP, outR, calF, consF, nilF, callF, callR, loads, loadR, tstF, tstR, andF, orF, notF, andVF, orVF, notVF, boolR, ifEF, chF, tupF, tupR, vals, lstF, lstR, fnF, Rv.rs, stF, stR, getL, slL, putL, Sl.put, hlp, fdivP_sm s2, i1, i2, one2, storeA, findL, hplus, backA]
  have hh : red (f.1 * s.2 + s.1 * f.2) (f.2 * s.2) = addF f s := rfl
  simp [seqF, skipF, ifF, retF, retR, setF, setR, parF, asgF, asgR, dropF, Out.bind, cF, varF, valF, takeF, takeR, binF, op2, op1, unF, opN, rds, rdP, outR, calF, consF, nilF, callF, callR, loads, loadR, tstF, tstR, andF, orF, notF, andVF, orVF, notVF, boolR, ifEF, chF, tupF, tupR, vals, lstF, lstR, fnF, Rv.rs, stF, stR, getL, slL, putL, Sl.put, hh, htimes, storeA, findL, midF]
end PV

set_option maxHeartbeats 2000000
namespace PV
open PySem L2
theorem findL_none1 {j : Nat} {a : P} {as : List Sl} : findL j [.val a] as = none := by
  cases as with
  | nil => rfl
  | cons x l => cases x <;> cases l <;> rfl
theorem storeA_none {π : En} {rs : List Rs} {as : List Sl} (h : ∀ j, findL j rs as = none) : storeA π rs as = π := by
  apply List.ext_getElem?
  intro j
  rw [store_get, h j]
  cases π[j]? <;> rfl
@[simp] theorem store1 {π : En} {a : P} {as : List Sl} : storeA π [.val a] as = π := storeA_none fun j => findL_none1
@[simp] theorem store2 {π : En} {a b : P} {x y : Sl} : storeA π [.val a, .val b] [x, y] = π := storeA_none fun j => by
  cases x <;> cases y <;> rfl
theorem storeB {π : En} {i : Nat} {m : P} {o o0 : O} {y : Sl} (h : π[i]? = some (.own o0)) : storeA π [.bor i, .val m] [.loan o, y] = π.set i (.own o) := by
  apply List.ext_getElem?
  intro j
  have hi := (List.getElem?_eq_some_iff.mp h).1
  rw [store_get]
  by_cases z : i = j
  · subst z
    rw [h, List.getElem?_set_self hi]
    show some (match (if i = i then some o else _) with | some o => (Sl.own o0).put o | none => _) = _
    rw [if_pos rfl]; rfl
  · rw [List.getElem?_set_ne z]
    have : findL j [.bor i, .val m] [.loan o, y] = none := by
      show (if i = j then some o else _) = none
      rw [if_neg z]
      cases y <;> rfl
    rw [this]
    cases π[j]? <;> rfl
/-- a draw -/
theorem draw {ns : List Int} {o : List P} {m : Int} {π : En} (h : Row ns o) (hm : 1 ≤ m) (hs : Sm m) (hπ : π[1]? = some (.own (.lst o))) :
    ∃ v o', (0 ≤ v ∧ v < m) ∧ Row ns o' ∧ callF F_law_taken (consF (varF 1) (consF (cF (.int m)) nilF)) π = .ok (.val (.int v)) (π.set 1 (.own (.lst o'))) := by
  obtain ⟨v, o', hv, ho, e⟩ := taken_ok h hm hs
  refine ⟨v, o', hv, ho, ?_⟩
  have hst : storeA π [.bor 1, .val (.int m)] [.loan (.lst o'), .val (.int m)] = π.set 1 (.own (.lst o')) := storeB hπ
  simp [seqF, skipF, ifF, retF, retR, setF, setR, parF, asgF, asgR, dropF, Out.bind, cF, varF, valF, takeF, takeR, binF, op2, op1, unF, opN, rds, rdP, outR, calF, consF, nilF, callF, callR, loads, loadR, tstF, tstR, andF, orF, notF, andVF, orVF, notVF, boolR, ifEF, chF, tupF, tupR, vals, lstF, lstR, fnF, Rv.rs, stF, stR, getL, slL, putL, Sl.put, hπ, e, hst]
theorem low_ok' {a b : Int} (hb : 1 ≤ b) (h : b ≤ 6000000) {π : En} {f g : M Rs} (hf : f π = .ok (.val (.int a)) π) (hg : g π = .ok (.val (.int b)) π) : callF F_law_low (consF f (consF g nilF)) π = .ok (.val (fr (red a b))) π := by
  have := low_ok (a := a) h hb
  simp [seqF, skipF, ifF, retF, retR, setF, setR, parF, asgF, asgR, dropF, Out.bind, cF, varF, valF, takeF, takeR, binF, op2, op1, unF, opN, rds, rdP, outR, calF, consF, nilF, callF, callR, loads, loadR, tstF, tstR, andF, orF, notF, andVF, orVF, notVF, boolR, ifEF, chF, tupF, tupR, vals, lstF, lstR, fnF, Rv.rs, stF, stR, getL, slL, putL, Sl.put, hf, hg, this]
end PV

set_option maxHeartbeats 4000000
namespace PV
open PySem L2

theorem S1 {ns : List Int} : Slaw1 [.val (.scr ns), .no, .no, .no, .no, .no, .no, .no, .no, .no, .no, .no, .no, .no, .no, .no, .no, .no, .no] = .ok .nx [.val (.scr ns), .own (.lst [.scr ns, .int 0, .int 61, .int 0]), .no, .no, .no, .no, .no, .no, .no, .no, .no, .no, .no, .no, .no, .no, .no, .no, .no] := by
  unfold Slaw1
  simp [seqF, skipF, ifF, retF, retR, setF, setR, parF, asgF, asgR, dropF, Out.bind, cF, varF, valF, takeF, takeR, binF, op2, op1, unF, opN, rds, rdP, outR, calF, consF, nilF, callF, callR, loads, loadR, tstF, tstR, andF, orF, notF, andVF, orVF, notVF, boolR, ifEF, chF, tupF, tupR, vals, lstF, lstR, fnF, Rv.rs, stF, stR, getL, slL, putL, Sl.put]
theorem S2 {x0 x2 x3 x4 x5 x6 x7 x8 x13 x14 x15 x16 x17 x18 : Sl} {ns : List Int} {o : List P} (h : Row ns o) : ∃ a b c d o', Ab 60 a ∧ (1 ≤ b ∧ b ≤ 60) ∧ Ab 60 c ∧ (1 ≤ d ∧ d ≤ 60) ∧ Row ns o' ∧
    Slaw2 [x0, .own (.lst o), x2, x3, x4, x5, x6, x7, x8, .no, .no, .no, .no, x13, x14, x15, x16, x17, x18] = .ok .nx [x0, .own (.lst o'), x2, x3, x4, x5, x6, x7, x8, .val (.int a), .val (.int b), .val (.int c), .val (.int d), x13, x14, x15, x16, x17, x18] := by
  have s121 : Sm 121 := by unfold Sm; omega
  have s60 : Sm 60 := by unfold Sm; omega
  obtain ⟨v1, o1, h1, r1, e1⟩ := draw (π := [x0, .own (.lst o), x2, x3, x4, x5, x6, x7, x8, .no, .no, .no, .no, x13, x14, x15, x16, x17, x18]) h (by omega) s121 rfl
  obtain ⟨v2, o2, h2, r2, e2⟩ := draw (π := [x0, .own (.lst o1), x2, x3, x4, x5, x6, x7, x8, .no, .no, .no, .no, x13, x14, x15, x16, x17, x18]) r1 (by omega) s60 rfl
  obtain ⟨v3, o3, h3, r3, e3⟩ := draw (π := [x0, .own (.lst o2), x2, x3, x4, x5, x6, x7, x8, .no, .no, .no, .no, x13, x14, x15, x16, x17, x18]) r2 (by omega) s121 rfl
  obtain ⟨v4, o4, h4, r4, e4⟩ := draw (π := [x0, .own (.lst o3), x2, x3, x4, x5, x6, x7, x8, .no, .no, .no, .no, x13, x14, x15, x16, x17, x18]) r3 (by omega) s60 rfl
  simp only [List.set] at e1 e2 e3 e4
  refine ⟨v1 - 60, 1 + v2, v3 - 60, 1 + v4, o4, by unfold Ab; omega, by omega, by unfold Ab; omega, by omega, r4, ?_⟩
  unfold Slaw2
  generalize callF F_law_taken (consF (varF 1) (consF (cF (.int 121)) nilF)) = D1 at *
  generalize callF F_law_taken (consF (varF 1) (consF (cF (.int 60)) nilF)) = D2 at *
  simp [seqF, skipF, ifF, retF, retR, setF, setR, parF, asgF, asgR, dropF, Out.bind, cF, varF, valF, takeF, takeR, binF, op2, op1, unF, opN, rds, rdP, outR, calF, consF, nilF, callF, callR, loads, loadR, tstF, tstR, andF, orF, notF, andVF, orVF, notVF, boolR, ifEF, chF, tupF, tupR, vals, lstF, lstR, fnF, Rv.rs, stF, stR, getL, slL, putL, Sl.put, e1, e2, e3, e4, tupT, consT, nilT, nameT]
theorem S3 {x0 x1 x2 x3 x4 x5 x6 x7 x8 x15 x16 x17 x18 : Sl} {a b c d : Int} (ha : Ab 60 a) (hb : 1 ≤ b ∧ b ≤ 60) (hc : Ab 60 c) (hd : 1 ≤ d ∧ d ≤ 60) :
    Slaw3 [x0, x1, x2, x3, x4, x5, x6, x7, x8, .val (.int a), .val (.int b), .val (.int c), .val (.int d), .no, .no, x15, x16, x17, x18] = .ok .nx [x0, x1, x2, x3, x4, x5, x6, x7, x8, .val (.int a), .val (.int b), .val (.int c), .val (.int d), .val (fr (red a b)), .val (fr (red c d)), x15, x16, x17, x18] := by
  have r1 := reduced_ok (a := a) (b := b) (by unfold Ab at ha; unfold Sm; omega) (by unfold Sm; omega) hb.1
  have r2 := reduced_ok (a := c) (b := d) (by unfold Ab at hc; unfold Sm; omega) (by unfold Sm; omega) hd.1
  unfold Slaw3
  simp [seqF, skipF, ifF, retF, retR, setF, setR, parF, asgF, asgR, dropF, Out.bind, cF, varF, valF, takeF, takeR, binF, op2, op1, unF, opN, rds, rdP, outR, calF, consF, nilF, callF, callR, loads, loadR, tstF, tstR, andF, orF, notF, andVF, orVF, notVF, boolR, ifEF, chF, tupF, tupR, vals, lstF, lstR, fnF, Rv.rs, stF, stR, getL, slL, putL, Sl.put, r1, r2]
theorem alk_fr {p : Int × Int} {n : Nat} : alk (n + 1) (fr p) = true := by
  unfold fr
  cases n <;> simp [seqF, skipF, ifF, retF, retR, setF, setR, parF, asgF, asgR, dropF, Out.bind, cF, varF, valF, takeF, takeR, binF, op2, op1, unF, opN, rds, rdP, outR, calF, consF, nilF, callF, callR, loads, loadR, tstF, tstR, andF, orF, notF, andVF, orVF, notVF, boolR, ifEF, chF, tupF, tupR, vals, lstF, lstR, fnF, Rv.rs, stF, stR, getL, slL, putL, Sl.put, alk]
theorem S4 {x0 x1 x2 x3 x4 x5 x6 x7 x8 x15 x16 x17 x18 : Sl} {a b c d : Int} (ha : Ab 60 a) (hb : 1 ≤ b ∧ b ≤ 60) (hc : Ab 60 c) (hd : 1 ≤ d ∧ d ≤ 60) :
    Slaw4 [x0, x1, x2, x3, x4, x5, x6, x7, x8, .val (.int a), .val (.int b), .val (.int c), .val (.int d), .val (fr (red a b)), .val (fr (red c d)), x15, x16, x17, x18] = .ok .nx [x0, x1, x2, x3, x4, x5, x6, x7, x8, .val (.int a), .val (.int b), .val (.int c), .val (.int d), .val (fr (red a b)), .val (fr (red c d)), x15, x16, x17, x18] := by
  have l1 := low_ok (a := a) (b := b) (by omega) hb.1
  have l2 := low_ok (a := c) (b := d) (by omega) hd.1
  have al := alike_ok 4 (.tup [fr (red a b), fr (red c d)]) (by simp [seqF, skipF, ifF, retF, retR, setF, setR, parF, asgF, asgR, dropF, Out.bind, cF, varF, valF, takeF, takeR, binF, op2, op1, unF, opN, rds, rdP, outR, calF, consF, nilF, callF, callR, loads, loadR, tstF, tstR, andF, orF, notF, andVF, orVF, notVF, boolR, ifEF, chF, tupF, tupR, vals, lstF, lstR, fnF, Rv.rs, stF, stR, getL, slL, putL, Sl.put, alk, alk_fr])
  have sa : Sm a := by unfold Ab at ha; unfold Sm; omega
  have sb : Sm b := by unfold Sm; omega
  have s2 : Sm 2 := by unfold Sm; omega
  have f1 := red_fb ha hb.1 hb.2
  have i1 := isfr_ok (x := (red a b).1) (y := (red a b).2) (by have := f1.1; unfold Ab at this; unfold Sm; omega) (by have := f1.2; unfold Sm; omega) f1.2.1
  rw [red_idem (red_cop hb.1) f1.2.1] at i1
  have i2 := isfr_ok (x := a * 2) (y := b * 2) (by unfold Ab at ha; unfold Sm; omega) (by unfold Sm; omega) (by omega)
  have hne : ¬ red (a * 2) (b * 2) = (a * 2, b * 2) := fun z => by
    have e : red (a * 2) (b * 2) = red a b := red_uniq (by omega) (red_cop hb.1) f1.2.1 (by have := red_val (a := a) hb.1; rw [Int.mul_right_comm, ← this, Int.mul_assoc])
    rw [e] at z
    have h2 := congrArg Prod.snd z
    have := f1.2.2
    have k2 : (red a b).2 ≤ b := (red_fb (X := 60) (Y := b) ha hb.1 (Int.le_refl _)).2.2
    simp [seqF, skipF, ifF, retF, retR, setF, setR, parF, asgF, asgR, dropF, Out.bind, cF, varF, valF, takeF, takeR, binF, op2, op1, unF, opN, rds, rdP, outR, calF, consF, nilF, callF, callR, loads, loadR, tstF, tstR, andF, orF, notF, andVF, orVF, notVF, boolR, ifEF, chF, tupF, tupR, vals, lstF, lstR, fnF, Rv.rs, stF, stR, getL, slL, putL, Sl.put] at h2
    omega
  have hfr : fr (a * 2, b * 2) = .tup [.int (a * 2), .int (b * 2)] := rfl
  rw [hfr] at i2
  unfold Slaw4
  simp [seqF, skipF, ifF, retF, retR, setF, setR, parF, asgF, asgR, dropF, Out.bind, cF, varF, valF, takeF, takeR, binF, op2, op1, unF, opN, rds, rdP, outR, calF, consF, nilF, callF, callR, loads, loadR, tstF, tstR, andF, orF, notF, andVF, orVF, notVF, boolR, ifEF, chF, tupF, tupR, vals, lstF, lstR, fnF, Rv.rs, stF, stR, getL, slL, putL, Sl.put, l1, l2, al, i1, mulP_sm sa s2, mulP_sm sb s2, i2, hne]
theorem red_eq {x y a b : Int} (hy : 1 ≤ y) (hb : 1 ≤ b) (e : x * b = a * y) : red x y = red a b := by
  refine red_uniq hy (red_cop hb) (red_bot hb) ?_
  have hv := red_val (a := a) hb
  generalize red a b = r at *
  have : b * (x * r.2) = b * (r.1 * y) := by
    have e1 : b * (x * r.2) = x * b * r.2 := by simp only [Int.mul_assoc, Int.mul_comm, Int.mul_left_comm]
    have e2 : a * y * r.2 = a * r.2 * y := Int.mul_right_comm _ _ _
    have e3 : r.1 * b * y = b * (r.1 * y) := by simp only [Int.mul_assoc, Int.mul_comm, Int.mul_left_comm]
    rw [e1, e, e2, ← hv, e3]
  exact Int.eq_of_mul_eq_mul_left (by omega) this
theorem cross {p1 p2 q1 q2 a b c d : Int} (v1 : p1 * b = a * p2) (v2 : q1 * d = c * q2) : p1 * q2 * (b * d) = a * d * (p2 * q2) ∧ q1 * p2 * (b * d) = c * b * (p2 * q2) ∧ p1 * q1 * (b * d) = a * c * (p2 * q2) := by
  refine ⟨?_, ?_, ?_⟩
  · have e1 : p1 * q2 * (b * d) = p1 * b * (q2 * d) := by simp only [Int.mul_assoc, Int.mul_comm, Int.mul_left_comm]
    rw [e1, v1]
    simp only [Int.mul_assoc, Int.mul_comm, Int.mul_left_comm]
  · have e1 : q1 * p2 * (b * d) = q1 * d * (p2 * b) := by simp only [Int.mul_assoc, Int.mul_comm, Int.mul_left_comm]
    rw [e1, v2]
    simp only [Int.mul_assoc, Int.mul_comm, Int.mul_left_comm]
  · have e1 : p1 * q1 * (b * d) = p1 * b * (q1 * d) := by simp only [Int.mul_assoc, Int.mul_comm, Int.mul_left_comm]
    rw [e1, v1, v2]
    simp only [Int.mul_assoc, Int.mul_comm, Int.mul_left_comm]
theorem S5 {x0 x1 x2 x3 x4 x5 x6 x7 x8 x15 x16 x17 x18 : Sl} {a b c d : Int} (ha : Ab 60 a) (hb : 1 ≤ b ∧ b ≤ 60) (hc : Ab 60 c) (hd : 1 ≤ d ∧ d ≤ 60) :
    Slaw5 [x0, x1, x2, x3, x4, x5, x6, x7, x8, .val (.int a), .val (.int b), .val (.int c), .val (.int d), .val (fr (red a b)), .val (fr (red c d)), x15, x16, x17, x18] = .ok .nx [x0, x1, x2, x3, x4, x5, x6, x7, x8, .val (.int a), .val (.int b), .val (.int c), .val (.int d), .val (fr (red a b)), .val (fr (red c d)), x15, x16, x17, x18] := by
  have sa : Sm a := by unfold Ab at ha; unfold Sm; omega
  have sb : Sm b := by unfold Sm; omega
  have sc : Sm c := by unfold Ab at hc; unfold Sm; omega
  have sd : Sm d := by unfold Sm; omega
  have f1 := red_fb ha hb.1 hb.2
  have f2 := red_fb hc hd.1 hd.2
  have b1 : Sb (red a b) := f1.le (by decide) (by decide)
  have b2 : Sb (red c d) := f2.le (by decide) (by decide)
  have v1 := red_val (a := a) hb.1
  have v2 := red_val (a := c) hd.1
  have k1 := red_bot (a := a) hb.1
  have k2 := red_bot (a := c) hd.1
  have hbd : 1 ≤ b * d := one_mul_pos hb.1 hd.1
  have hbd2 : b * d ≤ 6000000 := by
    have := ab_mul (A := 60) (B := 60) (x := b) (y := d) (by unfold Ab; omega) (by unfold Ab; omega)
    unfold Ab at this; omega
  have hkk := one_mul_pos k1 k2
  -- the three
  have p1 := plus_ok b1 b2
  have p2 := minus_ok b1 b2
  have p3 := times_ok b1 b2
  have l1 := low_ok (a := a * d + c * b) hbd2 hbd
  have l2 := low_ok (a := a * d - c * b) hbd2 hbd
  have l3 := low_ok (a := a * c) hbd2 hbd
  generalize hp : red a b = p at *
  generalize hq : red c d = q at *
  have cr := cross v1 v2
  have e1 : red (p.1 * q.2 + q.1 * p.2) (p.2 * q.2) = red (a * d + c * b) (b * d) := by
    refine red_eq hkk hbd ?_
    rw [Int.add_mul, Int.add_mul, cr.1, cr.2.1]
  have e2 : red (p.1 * q.2 - q.1 * p.2) (p.2 * q.2) = red (a * d - c * b) (b * d) := by
    refine red_eq hkk hbd ?_
    rw [Int.sub_mul, Int.sub_mul, cr.1, cr.2.1]
  have e3 : red (p.1 * q.1) (p.2 * q.2) = red (a * c) (b * d) := red_eq hkk hbd cr.2.2
  rw [e1] at p1
  rw [e2] at p2
  rw [e3] at p3
  have al := alike_ok 4 (.tup [fr (red (a * d + c * b) (b * d)), fr (red (a * d - c * b) (b * d)), fr (red (a * c) (b * d))]) (by simp [seqF, skipF, ifF, retF, retR, setF, setR, parF, asgF, asgR, dropF, Out.bind, cF, varF, valF, takeF, takeR, binF, op2, op1, unF, opN, rds, rdP, outR, calF, consF, nilF, callF, callR, loads, loadR, tstF, tstR, andF, orF, notF, andVF, orVF, notVF, boolR, ifEF, chF, tupF, tupR, vals, lstF, lstR, fnF, Rv.rs, stF, stR, getL, slL, putL, Sl.put, alk, alk_fr])
  unfold Slaw5
  simp [seqF, skipF, ifF, retF, retR, setF, setR, parF, asgF, asgR, dropF, Out.bind, cF, varF, valF, takeF, takeR, binF, op2, op1, unF, opN, rds, rdP, outR, calF, consF, nilF, callF, callR, loads, loadR, tstF, tstR, andF, orF, notF, andVF, orVF, notVF, boolR, ifEF, chF, tupF, tupR, vals, lstF, lstR, fnF, Rv.rs, stF, stR, getL, slL, putL, Sl.put, p1, p2, p3, mulP_sm sa sd, mulP_sm sc sb, mulP_sm sb sd, mulP_sm sa sc, l1, l2, l3, al]
theorem S6 {x0 x1 x2 x3 x4 x5 x6 x7 x8 x15 x16 x17 x18 : Sl} {a b c d : Int} (ha : Ab 60 a) (hb : 1 ≤ b ∧ b ≤ 60) (hc : Ab 60 c) (hd : 1 ≤ d ∧ d ≤ 60) :
    Slaw6 [x0, x1, x2, x3, x4, x5, x6, x7, x8, .val (.int a), .val (.int b), .val (.int c), .val (.int d), .val (fr (red a b)), .val (fr (red c d)), x15, x16, x17, x18] = .ok .nx [x0, x1, x2, x3, x4, x5, x6, x7, x8, .val (.int a), .val (.int b), .val (.int c), .val (.int d), .val (fr (red a b)), .val (fr (red c d)), x15, x16, x17, x18] := by
  have sa : Sm a := by unfold Ab at ha; unfold Sm; omega
  have sb : Sm b := by unfold Sm; omega
  have sc : Sm c := by unfold Ab at hc; unfold Sm; omega
  have sd : Sm d := by unfold Sm; omega
  have b1 : Sb (red a b) := (red_fb ha hb.1 hb.2).le (by decide) (by decide)
  have b2 : Sb (red c d) := (red_fb hc hd.1 hd.2).le (by decide) (by decide)
  have v1 := red_val (a := a) hb.1
  have v2 := red_val (a := c) hd.1
  have k1 := red_bot (a := a) hb.1
  have k2 := red_bot (a := c) hd.1
  have hbd : 1 ≤ b * d := one_mul_pos hb.1 hd.1
  have hl := less_ok b1 b2
  have cr := cross v1 v2
  have hkk := one_mul_pos k1 k2
  have eqv : decide ((red a b).1 * (red c d).2 < (red c d).1 * (red a b).2) = decide (a * d < c * b) := by
    apply decide_eq_decide.mpr
    generalize red a b = p at *
    generalize red c d = q at *
    constructor
    · intro h
      have h1 := Int.mul_lt_mul_of_pos_right h (show 0 < b * d by omega)
      rw [cr.1, cr.2.1] at h1
      exact Int.lt_of_mul_lt_mul_right h1 (by omega)
    · intro h
      have h1 := Int.mul_lt_mul_of_pos_right h (show 0 < p.2 * q.2 by omega)
      rw [← cr.1, ← cr.2.1] at h1
      exact Int.lt_of_mul_lt_mul_right h1 (by omega)
  rw [eqv] at hl
  have isiB : ∀ t : Bool, isiP' [.bl t, .ty "bool"] = some (.val (.bl true)) := fun t => rfl
  have truth : ∀ t : Bool, F_law_truth [.val (.bl t), .val (.bl t)] = .ok (.val (.bl true)) [.val (.bl t), .val (.bl t)] := fun t => by
    unfold F_law_truth B_law_truth
    simp [seqF, skipF, ifF, retF, retR, setF, setR, parF, asgF, asgR, dropF, Out.bind, cF, varF, valF, takeF, takeR, binF, op2, op1, unF, opN, rds, rdP, outR, calF, consF, nilF, callF, callR, loads, loadR, tstF, tstR, andF, orF, notF, andVF, orVF, notVF, boolR, ifEF, chF, tupF, tupR, vals, lstF, lstR, fnF, Rv.rs, stF, stR, getL, slL, putL, Sl.put, isiB, backA]
  have ht := truth (decide (a * d < c * b))
  unfold Slaw6
  by_cases hc0 : 0 < c
  · have hbc : 1 ≤ b * c := one_mul_pos hb.1 (by omega)
    have hbc2 : b * c ≤ 6000000 := by
      have := ab_mul (A := 60) (B := 60) (x := b) (y := c) (by unfold Ab; omega) hc
      unfold Ab at this; omega
    have l := low_ok (a := a * d) hbc2 hbc
    have hq1 : 1 ≤ (red c d).1 := by
      rcases Int.lt_or_le 0 (red c d).1 with h | h
      · omega
      · have p1 : 0 < c * (red c d).2 := Int.mul_pos hc0 (by omega)
        have p2 := Int.mul_nonpos_of_nonpos_of_nonneg h (show 0 ≤ d by omega)
        omega
    have o := over_ok b1 b2 hq1
    have e : red ((red a b).1 * (red c d).2) ((red a b).2 * (red c d).1) = red (a * d) (b * c) := by
      refine red_eq (one_mul_pos k1 hq1) hbc ?_
      generalize red a b = p at *
      generalize red c d = q at *
      have e1 : p.1 * q.2 * (b * c) = p.1 * b * (c * q.2) := by simp only [Int.mul_assoc, Int.mul_comm, Int.mul_left_comm]
      rw [e1, v1, ← v2]
      simp only [Int.mul_assoc, Int.mul_comm, Int.mul_left_comm]
    rw [e] at o
    have al := alike_ok 4 (fr (red (a * d) (b * c))) alk_fr
    simp [seqF, skipF, ifF, retF, retR, setF, setR, parF, asgF, asgR, dropF, Out.bind, cF, varF, valF, takeF, takeR, binF, op2, op1, unF, opN, rds, rdP, outR, calF, consF, nilF, callF, callR, loads, loadR, tstF, tstR, andF, orF, notF, andVF, orVF, notVF, boolR, ifEF, chF, tupF, tupR, vals, lstF, lstR, fnF, Rv.rs, stF, stR, getL, slL, putL, Sl.put, hc0, mulP_sm sa sd, mulP_sm sb sc, mulP_sm sc sb, l, o, al, hl, ht]
  · simp [seqF, skipF, ifF, retF, retR, setF, setR, parF, asgF, asgR, dropF, Out.bind, cF, varF, valF, takeF, takeR, binF, op2, op1, unF, opN, rds, rdP, outR, calF, consF, nilF, callF, callR, loads, loadR, tstF, tstR, andF, orF, notF, andVF, orVF, notVF, boolR, ifEF, chF, tupF, tupR, vals, lstF, lstR, fnF, Rv.rs, stF, stR, getL, slL, putL, Sl.put, hc0, mulP_sm sa sd, mulP_sm sc sb, hl, ht]
end PV

set_option maxHeartbeats 4000000
namespace PV
open PySem L2

def wl : List Int := (List.range 123).map fun i : Nat => (-61 + (i : Int))
theorem wl_mem {k : Int} : k ∈ wl ↔ -61 ≤ k ∧ k ≤ 61 := by
  unfold wl
  rw [List.mem_map]
  constructor
  · rintro ⟨i, hi, rfl⟩
    have := List.mem_range.mp hi
    omega
  · intro h
    exact ⟨(k + 61).toNat, List.mem_range.mpr (by omega), by omega⟩
theorem rng_wl : rngP (-61) 62 = wl.map P.int := by
  unfold rngP wl
  rw [List.map_map, show ((62 : Int) - -61).toNat = 123 by decide]
  rfl
theorem S7 {x0 x1 x3 x4 x5 x6 x7 x8 x9 x10 x11 x12 x13 x14 x15 x16 x17 x18 : Sl} : Slaw7 [x0, x1, .no, x3, x4, x5, x6, x7, x8, x9, x10, x11, x12, x13, x14, x15, x16, x17, x18] = .ok .nx [x0, x1, .own (.lst (wl.map P.int)), x3, x4, x5, x6, x7, x8, x9, x10, x11, x12, x13, x14, x15, x16, x17, x18] := by
  unfold Slaw7
  simp [seqF, skipF, ifF, retF, retR, setF, setR, parF, asgF, asgR, dropF, Out.bind, cF, varF, valF, takeF, takeR, binF, op2, op1, unF, opN, rds, rdP, outR, calF, consF, nilF, callF, callR, loads, loadR, tstF, tstR, andF, orF, notF, andVF, orVF, notVF, boolR, ifEF, chF, tupF, tupR, vals, lstF, lstR, fnF, Rv.rs, stF, stR, getL, slL, putL, Sl.put, lrgF, rng2F, rng2R, lrgR, rng_wl]
theorem lc_filter {x0 x1 x2 x3 x4 x5 x6 x7 x8 x9 x10 x11 x12 x13 x14 x15 x16 x17 : Sl} {tt : M Bool} {f : Int → Bool} {π0 : En} : ∀ (l : List Int) (acc : List P), (∀ k ∈ l, tt [x0, x1, x2, x3, x4, x5, x6, x7, x8, x9, x10, x11, x12, x13, x14, x15, x16, x17, .val (.int k)] = .ok (f k) [x0, x1, x2, x3, x4, x5, x6, x7, x8, x9, x10, x11, x12, x13, x14, x15, x16, x17, .val (.int k)]) →
    lcLoop (nameT 18) tt (takeF (varF 18)) [18] π0 (l.map P.int) acc [x0, x1, x2, x3, x4, x5, x6, x7, x8, x9, x10, x11, x12, x13, x14, x15, x16, x17, .no] = .ok (.own (.lst (acc ++ (l.filter f).map P.int))) (restE π0 [x0, x1, x2, x3, x4, x5, x6, x7, x8, x9, x10, x11, x12, x13, x14, x15, x16, x17, .no] [18])
  | [], acc, _ => by simp [seqF, skipF, ifF, retF, retR, setF, setR, parF, asgF, asgR, dropF, Out.bind, cF, varF, valF, takeF, takeR, binF, op2, op1, unF, opN, rds, rdP, outR, calF, consF, nilF, callF, callR, loads, loadR, tstF, tstR, andF, orF, notF, andVF, orVF, notVF, boolR, ifEF, chF, tupF, tupR, vals, lstF, lstR, fnF, Rv.rs, stF, stR, getL, slL, putL, Sl.put, lcLoop]
  | k :: l, acc, h => by
    have hk := h k List.mem_cons_self
    have ih := fun acc => lc_filter (π0 := π0) (f := f) l acc fun j hj => h j (List.mem_cons_of_mem _ hj)
    rw [List.map_cons]
    unfold lcLoop
    cases hf : f k with
    | true =>
      rw [hf] at hk
      simp [seqF, skipF, ifF, retF, retR, setF, setR, parF, asgF, asgR, dropF, Out.bind, cF, varF, valF, takeF, takeR, binF, op2, op1, unF, opN, rds, rdP, outR, calF, consF, nilF, callF, callR, loads, loadR, tstF, tstR, andF, orF, notF, andVF, orVF, notVF, boolR, ifEF, chF, tupF, tupR, vals, lstF, lstR, fnF, Rv.rs, stF, stR, getL, slL, putL, Sl.put, nameT, hk, chk, wipeE, hf]
      rw [ih]
      simp [seqF, skipF, ifF, retF, retR, setF, setR, parF, asgF, asgR, dropF, Out.bind, cF, varF, valF, takeF, takeR, binF, op2, op1, unF, opN, rds, rdP, outR, calF, consF, nilF, callF, callR, loads, loadR, tstF, tstR, andF, orF, notF, andVF, orVF, notVF, boolR, ifEF, chF, tupF, tupR, vals, lstF, lstR, fnF, Rv.rs, stF, stR, getL, slL, putL, Sl.put]
    | false =>
      rw [hf] at hk
      simp [seqF, skipF, ifF, retF, retR, setF, setR, parF, asgF, asgR, dropF, Out.bind, cF, varF, valF, takeF, takeR, binF, op2, op1, unF, opN, rds, rdP, outR, calF, consF, nilF, callF, callR, loads, loadR, tstF, tstR, andF, orF, notF, andVF, orVF, notVF, boolR, ifEF, chF, tupF, tupR, vals, lstF, lstR, fnF, Rv.rs, stF, stR, getL, slL, putL, Sl.put, nameT, hk, chk, wipeE, hf]
      exact ih acc
/-- [k for k in wholes if ..] -/
theorem lc_wl {x0 x1 x3 x4 x5 x6 x7 x8 x9 x10 x11 x12 x13 x14 x15 x16 x17 : Sl} {tt : M Bool} {f : Int → Bool} (s2 : Sl) (h2 : s2 = .own (.lst (wl.map P.int)) ∨ s2 = .val (.lst (wl.map P.int))) (h : ∀ k ∈ wl, tt [x0, x1, .val (.lst (wl.map P.int)), x3, x4, x5, x6, x7, x8, x9, x10, x11, x12, x13, x14, x15, x16, x17, .val (.int k)] = .ok (f k) [x0, x1, .val (.lst (wl.map P.int)), x3, x4, x5, x6, x7, x8, x9, x10, x11, x12, x13, x14, x15, x16, x17, .val (.int k)]) :
    lcF (itF (takeF (varF 2))) (nameT 18) tt (takeF (varF 18)) [18] [x0, x1, s2, x3, x4, x5, x6, x7, x8, x9, x10, x11, x12, x13, x14, x15, x16, x17, .no] = .ok (.own (.lst ((wl.filter f).map P.int))) [x0, x1, .val (.lst (wl.map P.int)), x3, x4, x5, x6, x7, x8, x9, x10, x11, x12, x13, x14, x15, x16, x17, .no] := by
  have hl := lc_filter (π0 := [x0, x1, .val (.lst (wl.map P.int)), x3, x4, x5, x6, x7, x8, x9, x10, x11, x12, x13, x14, x15, x16, x17, .no]) (f := f) wl [] h
  generalize wl.map P.int = W at *
  rcases h2 with e | e
  · subst e
    simp [seqF, skipF, ifF, retF, retR, setF, setR, parF, asgF, asgR, dropF, Out.bind, cF, varF, valF, takeF, takeR, binF, op2, op1, unF, opN, rds, rdP, outR, calF, consF, nilF, callF, callR, loads, loadR, tstF, tstR, andF, orF, notF, andVF, orVF, notVF, boolR, ifEF, chF, tupF, tupR, vals, lstF, lstR, fnF, Rv.rs, stF, stR, getL, slL, putL, Sl.put, lcF, itF, itR, seqItems, chk, wipeE, hl, restE]
  · subst e
    simp [seqF, skipF, ifF, retF, retR, setF, setR, parF, asgF, asgR, dropF, Out.bind, cF, varF, valF, takeF, takeR, binF, op2, op1, unF, opN, rds, rdP, outR, calF, consF, nilF, callF, callR, loads, loadR, tstF, tstR, andF, orF, notF, andVF, orVF, notVF, boolR, ifEF, chF, tupF, tupR, vals, lstF, lstR, fnF, Rv.rs, stF, stR, getL, slL, putL, Sl.put, lcF, itF, itR, seqItems, chk, wipeE, hl, restE]
theorem max_wl {f : Int → Bool} {m : Int} (hm : m ∈ wl) (hf : f m = true) (hu : ∀ k ∈ wl, f k = true → k ≤ m) : maxLP [.lst ((wl.filter f).map P.int)] = some (.val (.int m)) := by
  have hmem : m ∈ wl.filter f := List.mem_filter.mpr ⟨hm, hf⟩
  have hpos : 0 < (wl.filter f).length := List.length_pos_of_mem hmem
  obtain ⟨h1, h2⟩ := maxI_spec hpos
  have h3 := h2 m hmem
  have h4 := hu _ (List.mem_filter.mp h1).1 (List.mem_filter.mp h1).2
  show (intsOf ((wl.filter f).map P.int)).bind _ = _
  rw [intsOf_map]
  show (if 0 < (wl.filter f).length then ii (maxI (wl.filter f)) else none) = _
  rw [if_pos hpos, show maxI (wl.filter f) = m by omega]
theorem min_wl {f : Int → Bool} {m : Int} (hm : m ∈ wl) (hf : f m = true) (hu : ∀ k ∈ wl, f k = true → m ≤ k) : minLP [.lst ((wl.filter f).map P.int)] = some (.val (.int m)) := by
  have hmem : m ∈ wl.filter f := List.mem_filter.mpr ⟨hm, hf⟩
  have hpos : 0 < (wl.filter f).length := List.length_pos_of_mem hmem
  obtain ⟨h1, h2⟩ := minI_spec hpos
  have h3 := h2 m hmem
  have h4 := hu _ (List.mem_filter.mp h1).1 (List.mem_filter.mp h1).2
  show (intsOf ((wl.filter f).map P.int)).bind _ = _
  rw [intsOf_map]
  show (if 0 < (wl.filter f).length then ii (minI (wl.filter f)) else none) = _
  rw [if_pos hpos, show minI (wl.filter f) = m by omega]
theorem S8 {x0 x1 x3 x4 x5 x8 x11 x12 x13 x14 x15 x16 x17 : Sl} {a b : Int} (ha : Ab 60 a) (hb : 1 ≤ b ∧ b ≤ 60) :
    Slaw8 [x0, x1, .own (.lst (wl.map P.int)), x3, x4, x5, .no, .no, x8, .val (.int a), .val (.int b), x11, x12, x13, x14, x15, x16, x17, .no] = .ok .nx [x0, x1, .val (.lst (wl.map P.int)), x3, x4, x5, .val (.int (a / b)), .val (.int (-(-a / b))), x8, .val (.int a), .val (.int b), x11, x12, x13, x14, x15, x16, x17, .no] := by
  have sb : Sm b := by unfold Sm; omega
  have hb0 : 0 < b := by omega
  have h1 := lc_wl (x0 := x0) (x1 := x1) (x3 := x3) (x4 := x4) (x5 := x5) (x6 := .no) (x7 := .no) (x8 := x8) (x9 := .val (.int a)) (x10 := .val (.int b)) (x11 := x11) (x12 := x12) (x13 := x13) (x14 := x14) (x15 := x15) (x16 := x16) (x17 := x17)
    (tt := tstF (binF leP (binF mulP (varF 18) (varF 10)) (varF 9))) (f := fun k => decide (k * b ≤ a)) (.own (.lst (wl.map P.int))) (.inl rfl) (fun k hk => by
      have := wl_mem.mp hk
      simp [seqF, skipF, ifF, retF, retR, setF, setR, parF, asgF, asgR, dropF, Out.bind, cF, varF, valF, takeF, takeR, binF, op2, op1, unF, opN, rds, rdP, outR, calF, consF, nilF, callF, callR, loads, loadR, tstF, tstR, andF, orF, notF, andVF, orVF, notVF, boolR, ifEF, chF, tupF, tupR, vals, lstF, lstR, fnF, Rv.rs, stF, stR, getL, slL, putL, Sl.put, mulP_sm (show Sm k by unfold Sm; omega) sb])
  have h2 := lc_wl (x0 := x0) (x1 := x1) (x3 := x3) (x4 := x4) (x5 := x5) (x6 := .no) (x7 := .no) (x8 := x8) (x9 := .val (.int a)) (x10 := .val (.int b)) (x11 := x11) (x12 := x12) (x13 := x13) (x14 := x14) (x15 := x15) (x16 := x16) (x17 := x17)
    (tt := tstF (binF geP (binF mulP (varF 18) (varF 10)) (varF 9))) (f := fun k => decide (a ≤ k * b)) (.val (.lst (wl.map P.int))) (.inr rfl) (fun k hk => by
      have := wl_mem.mp hk
      simp [seqF, skipF, ifF, retF, retR, setF, setR, parF, asgF, asgR, dropF, Out.bind, cF, varF, valF, takeF, takeR, binF, op2, op1, unF, opN, rds, rdP, outR, calF, consF, nilF, callF, callR, loads, loadR, tstF, tstR, andF, orF, notF, andVF, orVF, notVF, boolR, ifEF, chF, tupF, tupR, vals, lstF, lstR, fnF, Rv.rs, stF, stR, getL, slL, putL, Sl.put, mulP_sm (show Sm k by unfold Sm; omega) sb])
  have q1 : a / b * b ≤ a := Int.ediv_mul_le a (by omega)
  have q2 : a < (a / b + 1) * b := Int.lt_ediv_add_one_mul_self a hb0
  have q3 : -a / b * b ≤ -a := Int.ediv_mul_le (-a) (by omega)
  have q4 : -a < (-a / b + 1) * b := Int.lt_ediv_add_one_mul_self (-a) hb0
  have r1 : -61 ≤ a / b ∧ a / b ≤ 60 := by
    unfold Ab at ha
    refine ⟨Int.le_ediv_of_mul_le hb0 (by omega), ?_⟩
    have := Int.ediv_le_self b (show 0 ≤ 60 by omega)
    have : a / b ≤ 60 / b := Int.ediv_le_ediv hb0 ha.2
    have : (60 : Int) / b ≤ 60 := Int.ediv_le_self b (by omega)
    omega
  have r2 : -60 ≤ -(-a / b) ∧ -(-a / b) ≤ 61 := by
    unfold Ab at ha
    have h1 : -61 ≤ -a / b := Int.le_ediv_of_mul_le hb0 (by omega)
    have : -a / b ≤ 60 / b := Int.ediv_le_ediv hb0 (by omega)
    have : (60 : Int) / b ≤ 60 := Int.ediv_le_self b (by omega)
    omega
  have m1 := max_wl (f := fun k => decide (k * b ≤ a)) (m := a / b) (wl_mem.mpr ⟨r1.1, by omega⟩) (by simpa [seqF, skipF, ifF, retF, retR, setF, setR, parF, asgF, asgR, dropF, Out.bind, cF, varF, valF, takeF, takeR, binF, op2, op1, unF, opN, rds, rdP, outR, calF, consF, nilF, callF, callR, loads, loadR, tstF, tstR, andF, orF, notF, andVF, orVF, notVF, boolR, ifEF, chF, tupF, tupR, vals, lstF, lstR, fnF, Rv.rs, stF, stR, getL, slL, putL, Sl.put] using q1) (fun k _ hk => by
    simp only [decide_eq_true_eq] at hk
    have : k * b < (a / b + 1) * b := by omega
    have := Int.lt_of_mul_lt_mul_right this (by omega)
    omega)
  have m2 := min_wl (f := fun k => decide (a ≤ k * b)) (m := -(-a / b)) (wl_mem.mpr ⟨by omega, r2.2⟩) (by simp only [decide_eq_true_eq]; rw [Int.neg_mul]; omega) (fun k _ hk => by
    simp only [decide_eq_true_eq] at hk
    have : (-k) * b < (-a / b + 1) * b := by rw [Int.neg_mul]; omega
    have := Int.lt_of_mul_lt_mul_right this (by omega)
    omega)
  unfold Slaw8
  generalize lcF (itF (takeF (varF 2))) (nameT 18) (tstF (binF leP (binF mulP (varF 18) (varF 10)) (varF 9))) (takeF (varF 18)) [18] = L1 at *
  generalize lcF (itF (takeF (varF 2))) (nameT 18) (tstF (binF geP (binF mulP (varF 18) (varF 10)) (varF 9))) (takeF (varF 18)) [18] = L2 at *
  simp [seqF, skipF, ifF, retF, retR, setF, setR, parF, asgF, asgR, dropF, Out.bind, cF, varF, valF, takeF, takeR, binF, op2, op1, unF, opN, rds, rdP, outR, calF, consF, nilF, callF, callR, loads, loadR, tstF, tstR, andF, orF, notF, andVF, orVF, notVF, boolR, ifEF, chF, tupF, tupR, vals, lstF, lstR, fnF, Rv.rs, stF, stR, getL, slL, putL, Sl.put, h1, h2, m1, m2]
theorem S9 {x0 x1 x4 x5 x6 x7 x8 x11 x12 x13 x14 x15 x16 x17 : Sl} {a b : Int} (ha : Ab 60 a) (hb : 1 ≤ b ∧ b ≤ 60) :
    Slaw9 [x0, x1, .val (.lst (wl.map P.int)), .no, x4, x5, x6, x7, x8, .val (.int a), .val (.int b), x11, x12, x13, x14, x15, x16, x17, .no] = .ok .nx [x0, x1, .val (.lst (wl.map P.int)), .val (.int ((2 * a + b) / (2 * b))), x4, x5, x6, x7, x8, .val (.int a), .val (.int b), x11, x12, x13, x14, x15, x16, x17, .no] := by
  have sb : Sm b := by unfold Sm; omega
  have sa : Sm a := by unfold Ab at ha; unfold Sm; omega
  have s2 : Sm 2 := by unfold Sm; omega
  have hb0 : 0 < 2 * b := by omega
  have h1 := lc_wl (x0 := x0) (x1 := x1) (x3 := .no) (x4 := x4) (x5 := x5) (x6 := x6) (x7 := x7) (x8 := x8) (x9 := .val (.int a)) (x10 := .val (.int b)) (x11 := x11) (x12 := x12) (x13 := x13) (x14 := x14) (x15 := x15) (x16 := x16) (x17 := x17)
    (tt := tstF (binF leP (binF mulP (binF subP (binF mulP (cF (.int 2)) (varF 18)) (cF (.int 1))) (varF 10)) (binF mulP (cF (.int 2)) (varF 9)))) (f := fun k => decide ((2 * k - 1) * b ≤ 2 * a)) (.val (.lst (wl.map P.int))) (.inr rfl) (fun k hk => by
      have := wl_mem.mp hk
      simp [seqF, skipF, ifF, retF, retR, setF, setR, parF, asgF, asgR, dropF, Out.bind, cF, varF, valF, takeF, takeR, binF, op2, op1, unF, opN, rds, rdP, outR, calF, consF, nilF, callF, callR, loads, loadR, tstF, tstR, andF, orF, notF, andVF, orVF, notVF, boolR, ifEF, chF, tupF, tupR, vals, lstF, lstR, fnF, Rv.rs, stF, stR, getL, slL, putL, Sl.put, mulP_sm s2 (show Sm k by unfold Sm; omega), mulP_sm (show Sm (2 * k - 1) by unfold Sm; omega) sb, mulP_sm s2 sa])
  have q1 : (2 * a + b) / (2 * b) * (2 * b) ≤ 2 * a + b := Int.ediv_mul_le _ (by omega)
  have q2 : 2 * a + b < ((2 * a + b) / (2 * b) + 1) * (2 * b) := Int.lt_ediv_add_one_mul_self _ hb0
  have r1 : -61 ≤ (2 * a + b) / (2 * b) ∧ (2 * a + b) / (2 * b) ≤ 61 := by
    unfold Ab at ha
    refine ⟨Int.le_ediv_of_mul_le hb0 (by omega), ?_⟩
    have : (2 * a + b) / (2 * b) < 62 := Int.ediv_lt_of_lt_mul hb0 (by omega)
    omega
  have conv : ∀ k : Int, (2 * k - 1) * b ≤ 2 * a ↔ k * (2 * b) ≤ 2 * a + b := fun k => by
    have e : (2 * k - 1) * b = k * (2 * b) - b := by rw [Int.sub_mul, Int.one_mul]; simp only [Int.mul_assoc, Int.mul_comm, Int.mul_left_comm]
    omega
  have m1 := max_wl (f := fun k => decide ((2 * k - 1) * b ≤ 2 * a)) (m := (2 * a + b) / (2 * b)) (wl_mem.mpr r1) (by simp only [decide_eq_true_eq]; exact (conv _).mpr q1) (fun k _ hk => by
    simp only [decide_eq_true_eq] at hk
    have := (conv k).mp hk
    have : k * (2 * b) < ((2 * a + b) / (2 * b) + 1) * (2 * b) := by omega
    have := Int.lt_of_mul_lt_mul_right this (by omega)
    omega)
  unfold Slaw9
  generalize lcF (itF (takeF (varF 2))) (nameT 18) (tstF (binF leP (binF mulP (binF subP (binF mulP (cF (.int 2)) (varF 18)) (cF (.int 1))) (varF 10)) (binF mulP (cF (.int 2)) (varF 9)))) (takeF (varF 18)) [18] = L1 at *
  simp [seqF, skipF, ifF, retF, retR, setF, setR, parF, asgF, asgR, dropF, Out.bind, cF, varF, valF, takeF, takeR, binF, op2, op1, unF, opN, rds, rdP, outR, calF, consF, nilF, callF, callR, loads, loadR, tstF, tstR, andF, orF, notF, andVF, orVF, notVF, boolR, ifEF, chF, tupF, tupR, vals, lstF, lstR, fnF, Rv.rs, stF, stR, getL, slL, putL, Sl.put, h1, m1]
theorem S10 {x0 x1 x2 x4 x5 x8 x9 x10 x11 x12 x14 x15 x16 x17 x18 : Sl} {a b : Int} (ha : Ab 60 a) (hb : 1 ≤ b ∧ b ≤ 60) :
    Slaw10 [x0, x1, x2, .val (.int ((2 * a + b) / (2 * b))), x4, x5, .val (.int (a / b)), .val (.int (-(-a / b))), x8, x9, x10, x11, x12, .val (fr (red a b)), x14, x15, x16, x17, x18] = .ok .nx [x0, x1, x2, .val (.int ((2 * a + b) / (2 * b))), x4, x5, .val (.int (a / b)), .val (.int (-(-a / b))), x8, x9, x10, x11, x12, .val (fr (red a b)), x14, x15, x16, x17, x18] := by
  have b1 : Sb (red a b) := (red_fb ha hb.1 hb.2).le (by decide) (by decide)
  have fl := floor_ok b1
  have ce := ceil_ok b1
  have ne := near_ok b1
  have hg := gcd_pos (a := a) hb.1
  obtain ⟨k, hk⟩ := Int.gcd_dvd_right a b
  obtain ⟨j, hj⟩ := Int.gcd_dvd_left a b
  have hr : red a b = (j, k) := by
    unfold red
    generalize (Int.gcd a b : Int) = g at *
    rw [hj, hk, Int.mul_ediv_cancel_left _ (show g ≠ 0 by omega), Int.mul_ediv_cancel_left _ (show g ≠ 0 by omega)]
  rw [hr] at fl ce ne ⊢
  generalize (Int.gcd a b : Int) = g at *
  have e1 : a / b = j / k := by rw [hj, hk, Int.mul_ediv_mul_of_pos _ _ (by omega)]
  have e2 : -a / b = -j / k := by rw [hj, hk, ← Int.mul_neg, Int.mul_ediv_mul_of_pos _ _ (by omega)]
  have e3 : (2 * a + b) / (2 * b) = (2 * j + k) / (2 * k) := by
    have h1 : 2 * a + b = g * (2 * j + k) := by rw [Int.mul_add, hj, hk]; simp only [Int.mul_assoc, Int.mul_comm, Int.mul_left_comm]
    have h2 : 2 * b = g * (2 * k) := by rw [hk]; simp only [Int.mul_assoc, Int.mul_comm, Int.mul_left_comm]
    rw [h1, h2, Int.mul_ediv_mul_of_pos _ _ (by omega)]
  rw [e1, e2, e3]
  have al := alike_ok 4 (.tup [.int (j / k), .int (-(-j / k)), .int ((2 * j + k) / (2 * k))]) (by simp [seqF, skipF, ifF, retF, retR, setF, setR, parF, asgF, asgR, dropF, Out.bind, cF, varF, valF, takeF, takeR, binF, op2, op1, unF, opN, rds, rdP, outR, calF, consF, nilF, callF, callR, loads, loadR, tstF, tstR, andF, orF, notF, andVF, orVF, notVF, boolR, ifEF, chF, tupF, tupR, vals, lstF, lstR, fnF, Rv.rs, stF, stR, getL, slL, putL, Sl.put, alk])
  unfold Slaw10
  simp [seqF, skipF, ifF, retF, retR, setF, setR, parF, asgF, asgR, dropF, Out.bind, cF, varF, valF, takeF, takeR, binF, op2, op1, unF, opN, rds, rdP, outR, calF, consF, nilF, callF, callR, loads, loadR, tstF, tstR, andF, orF, notF, andVF, orVF, notVF, boolR, ifEF, chF, tupF, tupR, vals, lstF, lstR, fnF, Rv.rs, stF, stR, getL, slL, putL, Sl.put, fl, ce, ne, al]
end PV

set_option maxHeartbeats 4000000
namespace PV
open PySem L2

noncomputable abbrev drawBody : M P := takeF (callF (Freduced) (consF (valF (takeF (binF subP (callF (F_law_taken) (consF (varF 1) (consF (cF (.int 40)) (nilF)))) (cF (.int 20))))) (consF (valF (takeF (binF addP (cF (.int 1)) (callF (F_law_taken) (consF (varF 1) (consF (cF (.int 6)) (nilF))))))) (nilF))))
def Rst (q : Q2) : Prop := Fb 20 6 q ∧ Int.gcd q.1 q.2 = 1
theorem lc_draws {x0 x2 x3 x4 x5 x6 x7 x8 x9 x10 x11 x12 x13 x14 x15 x16 x17 : Sl} {ns : List Int} {y1 : Sl} : ∀ (is : List Int) (acc : List P) (o : List P), Row ns o → ∃ (rest : List Q2) (o' : List P), Row ns o' ∧ rest.length = is.length ∧ (∀ q ∈ rest, Rst q) ∧
    lcLoop (nameT 18) yesF drawBody [18] [x0, y1, x2, x3, x4, x5, x6, x7, x8, x9, x10, x11, x12, x13, x14, x15, x16, x17, .no] (is.map P.int) acc [x0, .own (.lst o), x2, x3, x4, x5, x6, x7, x8, x9, x10, x11, x12, x13, x14, x15, x16, x17, .no]
      = .ok (.own (.lst (acc ++ rest.map fr))) [x0, .own (.lst o'), x2, x3, x4, x5, x6, x7, x8, x9, x10, x11, x12, x13, x14, x15, x16, x17, .no]
  | [], acc, o, ho => ⟨[], o, ho, rfl, (fun q hq => by cases hq), by simp [seqF, skipF, ifF, retF, retR, setF, setR, parF, asgF, asgR, dropF, Out.bind, cF, varF, valF, takeF, takeR, binF, op2, op1, unF, opN, rds, rdP, outR, calF, consF, nilF, callF, callR, loads, loadR, tstF, tstR, andF, orF, notF, andVF, orVF, notVF, boolR, ifEF, chF, tupF, tupR, vals, lstF, lstR, fnF, Rv.rs, stF, stR, getL, slL, putL, Sl.put, lcLoop, restE]⟩
  | k :: is, acc, o, ho => by
    have s40 : Sm 40 := by unfold Sm; omega
    have s6 : Sm 6 := by unfold Sm; omega
    obtain ⟨v1, o1, h1, r1, e1⟩ := draw (π := [x0, .own (.lst o), x2, x3, x4, x5, x6, x7, x8, x9, x10, x11, x12, x13, x14, x15, x16, x17, .val (.int k)]) ho (by omega) s40 rfl
    obtain ⟨v2, o2, h2, r2, e2⟩ := draw (π := [x0, .own (.lst o1), x2, x3, x4, x5, x6, x7, x8, x9, x10, x11, x12, x13, x14, x15, x16, x17, .val (.int k)]) r1 (by omega) s6 rfl
    simp only [List.set] at e1 e2
    have ha : Ab 20 (v1 - 20) := by unfold Ab; omega
    have hred := reduced_ok (a := v1 - 20) (b := 1 + v2) (by unfold Sm; omega) (by unfold Sm; omega) (by omega)
    have hq : Rst (red (v1 - 20) (1 + v2)) := ⟨red_fb ha (by omega) (by omega), red_cop (by omega)⟩
    obtain ⟨rest, o', ho', hl, hr, ih⟩ := lc_draws (x0 := x0) (x2 := x2) (x3 := x3) (x4 := x4) (x5 := x5) (x6 := x6) (x7 := x7) (x8 := x8) (x9 := x9) (x10 := x10) (x11 := x11) (x12 := x12) (x13 := x13) (x14 := x14) (x15 := x15) (x16 := x16) (x17 := x17) (y1 := y1) is (acc ++ [fr (red (v1 - 20) (1 + v2))]) o2 r2
    refine ⟨red (v1 - 20) (1 + v2) :: rest, o', ho', by simp [seqF, skipF, ifF, retF, retR, setF, setR, parF, asgF, asgR, dropF, Out.bind, cF, varF, valF, takeF, takeR, binF, op2, op1, unF, opN, rds, rdP, outR, calF, consF, nilF, callF, callR, loads, loadR, tstF, tstR, andF, orF, notF, andVF, orVF, notVF, boolR, ifEF, chF, tupF, tupR, vals, lstF, lstR, fnF, Rv.rs, stF, stR, getL, slL, putL, Sl.put, hl], fun q hq' => ?_, ?_⟩
    · rcases List.mem_cons.mp hq' with e | e
      · rw [e]; exact hq
      · exact hr q e
    · rw [List.map_cons]
      have hb : drawBody [x0, .own (.lst o), x2, x3, x4, x5, x6, x7, x8, x9, x10, x11, x12, x13, x14, x15, x16, x17, .val (.int k)] = .ok (fr (red (v1 - 20) (1 + v2))) [x0, .own (.lst o2), x2, x3, x4, x5, x6, x7, x8, x9, x10, x11, x12, x13, x14, x15, x16, x17, .val (.int k)] := by
        unfold drawBody
        generalize callF F_law_taken (consF (varF 1) (consF (cF (.int 40)) nilF)) = D1 at *
        generalize callF F_law_taken (consF (varF 1) (consF (cF (.int 6)) nilF)) = D2 at *
        simp [seqF, skipF, ifF, retF, retR, setF, setR, parF, asgF, asgR, dropF, Out.bind, cF, varF, valF, takeF, takeR, binF, op2, op1, unF, opN, rds, rdP, outR, calF, consF, nilF, callF, callR, loads, loadR, tstF, tstR, andF, orF, notF, andVF, orVF, notVF, boolR, ifEF, chF, tupF, tupR, vals, lstF, lstR, fnF, Rv.rs, stF, stR, getL, slL, putL, Sl.put, e1, e2, hred]
      generalize drawBody = B at *
      unfold lcLoop
      simp [seqF, skipF, ifF, retF, retR, setF, setR, parF, asgF, asgR, dropF, Out.bind, cF, varF, valF, takeF, takeR, binF, op2, op1, unF, opN, rds, rdP, outR, calF, consF, nilF, callF, callR, loads, loadR, tstF, tstR, andF, orF, notF, andVF, orVF, notVF, boolR, ifEF, chF, tupF, tupR, vals, lstF, lstR, fnF, Rv.rs, stF, stR, getL, slL, putL, Sl.put, nameT, yesF, hb, chk, wipeE]
      rw [ih]
      simp [seqF, skipF, ifF, retF, retR, setF, setR, parF, asgF, asgR, dropF, Out.bind, cF, varF, valF, takeF, takeR, binF, op2, op1, unF, opN, rds, rdP, outR, calF, consF, nilF, callF, callR, loads, loadR, tstF, tstR, andF, orF, notF, andVF, orVF, notVF, boolR, ifEF, chF, tupF, tupR, vals, lstF, lstR, fnF, Rv.rs, stF, stR, getL, slL, putL, Sl.put]
theorem S11 {x0 x2 x3 x4 x5 x6 x7 x8 x9 x10 x11 x12 x17 : Sl} {ns : List Int} {o : List P} {p q : Q2} (ho : Row ns o) : ∃ (rest : List Q2) (o' : List P), Row ns o' ∧ rest.length ≤ 4 ∧ (∀ q ∈ rest, Rst q) ∧
    Slaw11 [x0, .own (.lst o), x2, x3, x4, x5, x6, x7, x8, x9, x10, x11, x12, .val (fr p), .val (fr q), .no, .no, x17, .no] = .ok .nx [x0, .own (.lst o'), x2, x3, x4, x5, x6, x7, x8, x9, x10, x11, x12, .val (fr p), .val (fr q), .own (.lst ((p :: q :: rest).map fr)), .val (fr (0, 1)), x17, .no] := by
  have s5 : Sm 5 := by unfold Sm; omega
  obtain ⟨v, o1, h1, r1, e1⟩ := draw (π := [x0, .own (.lst o), x2, x3, x4, x5, x6, x7, x8, x9, x10, x11, x12, .val (fr p), .val (fr q), .no, .no, x17, .no]) ho (by omega) s5 rfl
  simp only [List.set] at e1
  obtain ⟨rest, o', ho', hl, hr, hlc⟩ := lc_draws (x0 := x0) (x2 := x2) (x3 := x3) (x4 := x4) (x5 := x5) (x6 := x6) (x7 := x7) (x8 := x8) (x9 := x9) (x10 := x10) (x11 := x11) (x12 := x12) (x13 := .val (fr p)) (x14 := .val (fr q)) (x15 := .no) (x16 := .no) (x17 := x17) (y1 := .own (.lst o1))
    ((List.range v.toNat).map fun i : Nat => (0 + (i : Int))) [] o1 r1
  have hl' : rest.length ≤ 4 := by rw [hl]; simp [seqF, skipF, ifF, retF, retR, setF, setR, parF, asgF, asgR, dropF, Out.bind, cF, varF, valF, takeF, takeR, binF, op2, op1, unF, opN, rds, rdP, outR, calF, consF, nilF, callF, callR, loads, loadR, tstF, tstR, andF, orF, notF, andVF, orVF, notVF, boolR, ifEF, chF, tupF, tupR, vals, lstF, lstR, fnF, Rv.rs, stF, stR, getL, slL, putL, Sl.put]; omega
  refine ⟨rest, o', ho', hl', hr, ?_⟩
  have hrng : rng1F (consF (callF F_law_taken (consF (varF 1) (consF (cF (.int 5)) nilF))) nilF) [x0, .own (.lst o), x2, x3, x4, x5, x6, x7, x8, x9, x10, x11, x12, .val (fr p), .val (fr q), .no, .no, x17, .no] = .ok (((List.range v.toNat).map fun i : Nat => (0 + (i : Int))).map P.int) [x0, .own (.lst o1), x2, x3, x4, x5, x6, x7, x8, x9, x10, x11, x12, .val (fr p), .val (fr q), .no, .no, x17, .no] := by
    generalize callF F_law_taken (consF (varF 1) (consF (cF (.int 5)) nilF)) = D at *
    simp only [rng1F, consF, e1, Out.bind, nilF, rng1R]
    rw [if_pos (by omega)]
    unfold rngP
    rw [List.map_map, Int.sub_zero]
    rfl
  have hL : lcF (rng1F (consF (callF F_law_taken (consF (varF 1) (consF (cF (.int 5)) nilF))) nilF)) (nameT 18) yesF drawBody [18] [x0, .own (.lst o), x2, x3, x4, x5, x6, x7, x8, x9, x10, x11, x12, .val (fr p), .val (fr q), .no, .no, x17, .no] = .ok (.own (.lst (rest.map fr))) [x0, .own (.lst o'), x2, x3, x4, x5, x6, x7, x8, x9, x10, x11, x12, .val (fr p), .val (fr q), .no, .no, x17, .no] := by
    unfold lcF
    simp only [hrng, Out.bind]
    generalize drawBody = B at *
    simp [seqF, skipF, ifF, retF, retR, setF, setR, parF, asgF, asgR, dropF, Out.bind, cF, varF, valF, takeF, takeR, binF, op2, op1, unF, opN, rds, rdP, outR, calF, consF, nilF, callF, callR, loads, loadR, tstF, tstR, andF, orF, notF, andVF, orVF, notVF, boolR, ifEF, chF, tupF, tupR, vals, lstF, lstR, fnF, Rv.rs, stF, stR, getL, slL, putL, Sl.put, chk, wipeE]
    simpa [seqF, skipF, ifF, retF, retR, setF, setR, parF, asgF, asgR, dropF, Out.bind, cF, varF, valF, takeF, takeR, binF, op2, op1, unF, opN, rds, rdP, outR, calF, consF, nilF, callF, callR, loads, loadR, tstF, tstR, andF, orF, notF, andVF, orVF, notVF, boolR, ifEF, chF, tupF, tupR, vals, lstF, lstR, fnF, Rv.rs, stF, stR, getL, slL, putL, Sl.put] using hlc
  have hadd : addP (.lst [fr p, fr q]) (.lst (rest.map fr)) = some (.own (.lst ((p :: q :: rest).map fr))) := by
    unfold addP
    show (if ([fr p, fr q] : List P).length + (rest.map fr).length ≤ 1000000 then some (Rv.own (.lst ([fr p, fr q] ++ rest.map fr))) else none) = _
    rw [if_pos (by simp [seqF, skipF, ifF, retF, retR, setF, setR, parF, asgF, asgR, dropF, Out.bind, cF, varF, valF, takeF, takeR, binF, op2, op1, unF, opN, rds, rdP, outR, calF, consF, nilF, callF, callR, loads, loadR, tstF, tstR, andF, orF, notF, andVF, orVF, notVF, boolR, ifEF, chF, tupF, tupR, vals, lstF, lstR, fnF, Rv.rs, stF, stR, getL, slL, putL, Sl.put]; omega)]
    rfl
  have e01 : (P.tup [.int 0, .int 1]) = fr (0, 1) := rfl
  unfold Slaw11
  generalize lcF (rng1F (consF (callF F_law_taken (consF (varF 1) (consF (cF (.int 5)) nilF))) nilF)) (nameT 18) yesF drawBody [18] = L1 at *
  simp [seqF, skipF, ifF, retF, retR, setF, setR, parF, asgF, asgR, dropF, Out.bind, cF, varF, valF, takeF, takeR, binF, op2, op1, unF, opN, rds, rdP, outR, calF, consF, nilF, callF, callR, loads, loadR, tstF, tstR, andF, orF, notF, andVF, orVF, notVF, boolR, ifEF, chF, tupF, tupR, vals, lstF, lstR, fnF, Rv.rs, stF, stR, getL, slL, putL, Sl.put, hL, hadd, e01]
theorem loop_low2 {x0 x1 x2 x3 x5 x6 x7 x8 x9 x10 x11 x12 x13 x14 x15 x17 x18 : Sl} : ∀ (l : List Q2) (acc : Q2) (x4 : Sl), NL x4 → Chain acc l → ∃ x4', (x4' = x4 ∨ ∃ p4, x4' = .val p4) ∧
    loopF (nameT 4) (setF 16 (callF (F_law_low) (consF (valF (takeF (binF addP (binF mulP (binF ixP (varF 16) (cF (.int 0))) (binF ixP (varF 4) (cF (.int 1)))) (binF mulP (binF ixP (varF 4) (cF (.int 0))) (binF ixP (varF 16) (cF (.int 1))))))) (consF (valF (takeF (binF mulP (binF ixP (varF 16) (cF (.int 1))) (binF ixP (varF 4) (cF (.int 1)))))) (nilF))))) (l.map fr) [x0, x1, x2, x3, x4, x5, x6, x7, x8, x9, x10, x11, x12, x13, x14, x15, .val (fr acc), x17, x18]
      = .ok .nx [x0, x1, x2, x3, x4', x5, x6, x7, x8, x9, x10, x11, x12, x13, x14, x15, .val (fr (l.foldl addF acc)), x17, x18]
  | [], acc, x4, h4, _ => ⟨x4, .inl rfl, rfl⟩
  | p :: l, acc, x4, h4, hc => by
    obtain ⟨h1, h2, h3, h5⟩ := hc
    obtain ⟨x', n', ih⟩ := loop_low2 (x0 := x0) (x1 := x1) (x2 := x2) (x3 := x3) (x5 := x5) (x6 := x6) (x7 := x7) (x8 := x8) (x9 := x9) (x10 := x10) (x11 := x11) (x12 := x12) (x13 := x13) (x14 := x14) (x15 := x15) (x17 := x17) (x18 := x18) l (addF acc p) (.val (fr p)) nl_val h5
    refine ⟨x', .inr (n'.elim (fun e => ⟨_, e⟩) id), ?_⟩
    rw [List.map_cons, List.foldl_cons, ← ih]
    have hl := low_ok (a := acc.1 * p.2 + p.1 * acc.2) h3 (one_mul_pos h1.2.1 h2.2.1)
    have ht : nameT 4 (fr p) [x0, x1, x2, x3, x4, x5, x6, x7, x8, x9, x10, x11, x12, x13, x14, x15, .val (fr acc), x17, x18] = some [x0, x1, x2, x3, .val (fr p), x5, x6, x7, x8, x9, x10, x11, x12, x13, x14, x15, .val (fr acc), x17, x18] := by
      cases x4 with
      | loan o => exact absurd rfl (h4 o)
      | _ => rfl
    have i0 : ∀ r : Q2, ixP (fr r) (.int 0) = some (.val (.int r.1)) := fun r => ix0
    have i1 : ∀ r : Q2, ixP (fr r) (.int 1) = some (.val (.int r.2)) := fun r => ix1
    conv => lhs; unfold loopF
    simp only [ht]
    simp [seqF, skipF, ifF, retF, retR, setF, setR, parF, asgF, asgR, dropF, Out.bind, cF, varF, valF, takeF, takeR, binF, op2, op1, unF, opN, rds, rdP, outR, calF, consF, nilF, callF, callR, loads, loadR, tstF, tstR, andF, orF, notF, andVF, orVF, notVF, boolR, ifEF, chF, tupF, tupR, vals, lstF, lstR, fnF, Rv.rs, stF, stR, getL, slL, putL, Sl.put, i0, i1, mulP_sm, sm9 h1.1, sm9 h2.1, sm9 h1.bot, sm9 h2.bot, hl]
    rfl
theorem S12 {x0 x1 x2 x3 x4 x5 x6 x7 x8 x9 x10 x11 x12 x13 x14 x17 x18 : Sl} {l : List Q2} (h4 : NL x4) (hc : Chain (0, 1) l) : ∃ x4', (x4' = x4 ∨ ∃ p4, x4' = .val p4) ∧
    Slaw12 [x0, x1, x2, x3, x4, x5, x6, x7, x8, x9, x10, x11, x12, x13, x14, .own (.lst (l.map fr)), .val (fr (0, 1)), x17, x18] = .ok .nx [x0, x1, x2, x3, x4', x5, x6, x7, x8, x9, x10, x11, x12, x13, x14, .val (.lst (l.map fr)), .val (fr (l.foldl addF (0, 1))), x17, x18] := by
  obtain ⟨x', n', h⟩ := loop_low2 (x0 := x0) (x1 := x1) (x2 := x2) (x3 := x3) (x5 := x5) (x6 := x6) (x7 := x7) (x8 := x8) (x9 := x9) (x10 := x10) (x11 := x11) (x12 := x12) (x13 := x13) (x14 := x14) (x15 := .val (.lst (l.map fr))) (x17 := x17) (x18 := x18) l (0, 1) x4 h4 hc
  refine ⟨x', n', ?_⟩
  unfold Slaw12
  simp [seqF, skipF, ifF, retF, retR, setF, setR, parF, asgF, asgR, dropF, Out.bind, cF, varF, valF, takeF, takeR, binF, op2, op1, unF, opN, rds, rdP, outR, calF, consF, nilF, callF, callR, loads, loadR, tstF, tstR, andF, orF, notF, andVF, orVF, notVF, boolR, ifEF, chF, tupF, tupR, vals, lstF, lstR, fnF, Rv.rs, stF, stR, getL, slL, putL, Sl.put, forF, itF, itR, seqItems, h]
theorem S13 {x0 x1 x2 x3 x4 x5 x6 x7 x8 x9 x10 x11 x12 x13 x14 x17 x18 : Sl} {l : List Q2} (hc : Chain (0, 1) l) :
    Slaw13 [x0, x1, x2, x3, x4, x5, x6, x7, x8, x9, x10, x11, x12, x13, x14, .val (.lst (l.map fr)), .val (fr (l.foldl addF (0, 1))), x17, x18] = .ok .nx [x0, x1, x2, x3, x4, x5, x6, x7, x8, x9, x10, x11, x12, x13, x14, .val (.lst (l.map fr)), .val (fr (l.foldl addF (0, 1))), x17, x18] := by
  have ht := total_ok hc
  have al := alike_ok 4 (fr (l.foldl addF (0, 1))) alk_fr
  unfold Slaw13
  simp [seqF, skipF, ifF, retF, retR, setF, setR, parF, asgF, asgR, dropF, Out.bind, cF, varF, valF, takeF, takeR, binF, op2, op1, unF, opN, rds, rdP, outR, calF, consF, nilF, callF, callR, loads, loadR, tstF, tstR, andF, orF, notF, andVF, orVF, notVF, boolR, ifEF, chF, tupF, tupR, vals, lstF, lstR, fnF, Rv.rs, stF, stR, getL, slL, putL, Sl.put, ht, al]
end PV

set_option maxHeartbeats 4000000
namespace PV
open PySem L2

theorem S14 {x0 x1 x2 x3 x4 x6 x7 x8 x9 x10 x11 x12 x13 x14 x16 x17 x18 : Sl} {a : Q2} {l : List Q2} {f s : Q2} (hl : ∀ q ∈ a :: l, Sb q) (hn : l.length ≤ 100) (hlen : (sortQ (a :: l)).length = l.length + 1)
    (e1 : (sortQ (a :: l))[l.length / 2]? = some f) (e2 : (sortQ (a :: l))[(l.length + 1) / 2]? = some s) (hf : Sb f) (hs : Sb s) (hfs : Sb (addF f s)) :
    Slaw14 [x0, x1, x2, x3, x4, .no, x6, x7, x8, x9, x10, x11, x12, x13, x14, .val (.lst ((a :: l).map fr)), x16, x17, x18] = .ok .nx [x0, x1, x2, x3, x4, .val (fr (midF f s)), x6, x7, x8, x9, x10, x11, x12, x13, x14, .val (.lst ((a :: l).map fr)), x16, x17, x18] := by
  have hm := median_ok hl hn hlen e1 e2 hf hs hfs
  unfold Slaw14
  generalize (P.lst ((a :: l).map fr)) = W at *
  simp [seqF, skipF, ifF, retF, retR, setF, setR, parF, asgF, asgR, dropF, Out.bind, cF, varF, valF, takeF, takeR, binF, op2, op1, unF, opN, rds, rdP, outR, calF, consF, nilF, callF, callR, loads, loadR, tstF, tstR, andF, orF, notF, andVF, orVF, notVF, boolR, ifEF, chF, tupF, tupR, vals, lstF, lstR, fnF, Rv.rs, stF, stR, getL, slL, putL, Sl.put, hm]
theorem lc_count {x0 x1 x2 x3 x5 x6 x7 x8 x9 x10 x11 x12 x13 x14 x15 x16 x17 x18 : Sl} {tt : M Bool} {f : Q2 → Bool} {π0 : En} : ∀ (l : List Q2) (acc : List P), (∀ k ∈ l, tt [x0, x1, x2, x3, .val (fr k), x5, x6, x7, x8, x9, x10, x11, x12, x13, x14, x15, x16, x17, x18] = .ok (f k) [x0, x1, x2, x3, .val (fr k), x5, x6, x7, x8, x9, x10, x11, x12, x13, x14, x15, x16, x17, x18]) →
    lcLoop (nameT 4) tt (takeF (cF (.int 1))) [4] π0 (l.map fr) acc [x0, x1, x2, x3, .no, x5, x6, x7, x8, x9, x10, x11, x12, x13, x14, x15, x16, x17, x18] = .ok (.own (.lst (acc ++ (l.filter f).map fun _ => P.int 1))) (restE π0 [x0, x1, x2, x3, .no, x5, x6, x7, x8, x9, x10, x11, x12, x13, x14, x15, x16, x17, x18] [4])
  | [], acc, _ => by simp [seqF, skipF, ifF, retF, retR, setF, setR, parF, asgF, asgR, dropF, Out.bind, cF, varF, valF, takeF, takeR, binF, op2, op1, unF, opN, rds, rdP, outR, calF, consF, nilF, callF, callR, loads, loadR, tstF, tstR, andF, orF, notF, andVF, orVF, notVF, boolR, ifEF, chF, tupF, tupR, vals, lstF, lstR, fnF, Rv.rs, stF, stR, getL, slL, putL, Sl.put, lcLoop]
  | k :: l, acc, h => by
    have hk := h k List.mem_cons_self
    have ih := fun acc => lc_count (π0 := π0) (f := f) l acc fun j hj => h j (List.mem_cons_of_mem _ hj)
    rw [List.map_cons]
    unfold lcLoop
    cases hf : f k with
    | true =>
      rw [hf] at hk
      simp [seqF, skipF, ifF, retF, retR, setF, setR, parF, asgF, asgR, dropF, Out.bind, cF, varF, valF, takeF, takeR, binF, op2, op1, unF, opN, rds, rdP, outR, calF, consF, nilF, callF, callR, loads, loadR, tstF, tstR, andF, orF, notF, andVF, orVF, notVF, boolR, ifEF, chF, tupF, tupR, vals, lstF, lstR, fnF, Rv.rs, stF, stR, getL, slL, putL, Sl.put, nameT, hk, chk, wipeE, hf]
      rw [ih]
      simp [seqF, skipF, ifF, retF, retR, setF, setR, parF, asgF, asgR, dropF, Out.bind, cF, varF, valF, takeF, takeR, binF, op2, op1, unF, opN, rds, rdP, outR, calF, consF, nilF, callF, callR, loads, loadR, tstF, tstR, andF, orF, notF, andVF, orVF, notVF, boolR, ifEF, chF, tupF, tupR, vals, lstF, lstR, fnF, Rv.rs, stF, stR, getL, slL, putL, Sl.put]
    | false =>
      rw [hf] at hk
      simp [seqF, skipF, ifF, retF, retR, setF, setR, parF, asgF, asgR, dropF, Out.bind, cF, varF, valF, takeF, takeR, binF, op2, op1, unF, opN, rds, rdP, outR, calF, consF, nilF, callF, callR, loads, loadR, tstF, tstR, andF, orF, notF, andVF, orVF, notVF, boolR, ifEF, chF, tupF, tupR, vals, lstF, lstR, fnF, Rv.rs, stF, stR, getL, slL, putL, Sl.put, nameT, hk, chk, wipeE, hf]
      exact ih acc
theorem lc_cnt {x0 x1 x2 x3 x5 x6 x7 x8 x9 x10 x11 x12 x13 x14 x16 x17 x18 : Sl} {p4 : P} {x4 : Sl} (h4 : x4 = .val p4 ∨ x4 = .no) {tt : M Bool} {f : Q2 → Bool} {l : List Q2} (h : ∀ k ∈ l, tt [x0, x1, x2, x3, .val (fr k), x5, x6, x7, x8, x9, x10, x11, x12, x13, x14, .val (.lst (l.map fr)), x16, x17, x18] = .ok (f k) [x0, x1, x2, x3, .val (fr k), x5, x6, x7, x8, x9, x10, x11, x12, x13, x14, .val (.lst (l.map fr)), x16, x17, x18]) :
    lcF (itF (takeF (varF 15))) (nameT 4) tt (takeF (cF (.int 1))) [4] [x0, x1, x2, x3, x4, x5, x6, x7, x8, x9, x10, x11, x12, x13, x14, .val (.lst (l.map fr)), x16, x17, x18] = .ok (.own (.lst ((l.filter f).map fun _ => P.int 1))) [x0, x1, x2, x3, x4, x5, x6, x7, x8, x9, x10, x11, x12, x13, x14, .val (.lst (l.map fr)), x16, x17, x18] := by
  have hl := lc_count (π0 := [x0, x1, x2, x3, x4, x5, x6, x7, x8, x9, x10, x11, x12, x13, x14, .val (.lst (l.map fr)), x16, x17, x18]) (f := f) l [] h
  rcases h4 with e | e
  · subst e
    simp [seqF, skipF, ifF, retF, retR, setF, setR, parF, asgF, asgR, dropF, Out.bind, cF, varF, valF, takeF, takeR, binF, op2, op1, unF, opN, rds, rdP, outR, calF, consF, nilF, callF, callR, loads, loadR, tstF, tstR, andF, orF, notF, andVF, orVF, notVF, boolR, ifEF, chF, tupF, tupR, vals, lstF, lstR, fnF, Rv.rs, stF, stR, getL, slL, putL, Sl.put, lcF, itF, itR, seqItems, chk, wipeE]
    rw [hl]
    simp [seqF, skipF, ifF, retF, retR, setF, setR, parF, asgF, asgR, dropF, Out.bind, cF, varF, valF, takeF, takeR, binF, op2, op1, unF, opN, rds, rdP, outR, calF, consF, nilF, callF, callR, loads, loadR, tstF, tstR, andF, orF, notF, andVF, orVF, notVF, boolR, ifEF, chF, tupF, tupR, vals, lstF, lstR, fnF, Rv.rs, stF, stR, getL, slL, putL, Sl.put, restE]
  · subst e
    simp [seqF, skipF, ifF, retF, retR, setF, setR, parF, asgF, asgR, dropF, Out.bind, cF, varF, valF, takeF, takeR, binF, op2, op1, unF, opN, rds, rdP, outR, calF, consF, nilF, callF, callR, loads, loadR, tstF, tstR, andF, orF, notF, andVF, orVF, notVF, boolR, ifEF, chF, tupF, tupR, vals, lstF, lstR, fnF, Rv.rs, stF, stR, getL, slL, putL, Sl.put, lcF, itF, itR, seqItems, chk, wipeE]
    rw [hl]
    simp [seqF, skipF, ifF, retF, retR, setF, setR, parF, asgF, asgR, dropF, Out.bind, cF, varF, valF, takeF, takeR, binF, op2, op1, unF, opN, rds, rdP, outR, calF, consF, nilF, callF, callR, loads, loadR, tstF, tstR, andF, orF, notF, andVF, orVF, notVF, boolR, ifEF, chF, tupF, tupR, vals, lstF, lstR, fnF, Rv.rs, stF, stR, getL, slL, putL, Sl.put, restE]
theorem S15 {x0 x1 x2 x3 x7 x8 x9 x10 x11 x12 x13 x14 x16 x17 x18 x4 : Sl} {p4 p6 : P} (h4 : x4 = .val p4 ∨ x4 = .no) {l : List Q2} {m : Q2} (hl : ∀ q ∈ l, Sb q) (hm : Sb m) :
    Slaw15 [x0, x1, x2, x3, x4, .val (fr m), .val p6, x7, x8, x9, x10, x11, x12, x13, x14, .val (.lst (l.map fr)), x16, x17, x18] = .ok .nx [x0, x1, x2, x3, x4, .val (fr m), .val (.int (l.filter fun q => decide (q.1 * m.2 < m.1 * q.2)).length), x7, x8, x9, x10, x11, x12, x13, x14, .val (.lst (l.map fr)), x16, x17, x18] := by
  have i0 : ∀ r : Q2, ixP (fr r) (.int 0) = some (.val (.int r.1)) := fun r => ix0
  have i1 : ∀ r : Q2, ixP (fr r) (.int 1) = some (.val (.int r.2)) := fun r => ix1
  have h := lc_cnt (x0 := x0) (x1 := x1) (x2 := x2) (x3 := x3) (x5 := .val (fr m)) (x6 := .val p6) (x7 := x7) (x8 := x8) (x9 := x9) (x10 := x10) (x11 := x11) (x12 := x12) (x13 := x13) (x14 := x14) (x16 := x16) (x17 := x17) (x18 := x18) (l := l) h4
    (tt := tstF (binF ltP (binF mulP (binF ixP (varF 4) (cF (.int 0))) (binF ixP (varF 5) (cF (.int 1)))) (binF mulP (binF ixP (varF 5) (cF (.int 0))) (binF ixP (varF 4) (cF (.int 1)))))) (f := fun q => decide (q.1 * m.2 < m.1 * q.2)) (fun q hq => by
      have := hl q hq
      simp [seqF, skipF, ifF, retF, retR, setF, setR, parF, asgF, asgR, dropF, Out.bind, cF, varF, valF, takeF, takeR, binF, op2, op1, unF, opN, rds, rdP, outR, calF, consF, nilF, callF, callR, loads, loadR, tstF, tstR, andF, orF, notF, andVF, orVF, notVF, boolR, ifEF, chF, tupF, tupR, vals, lstF, lstR, fnF, Rv.rs, stF, stR, getL, slL, putL, Sl.put, i0, i1, mulP_sm, sm9 this.1, sm9 hm.1, sm9 this.bot, sm9 hm.bot])
  unfold Slaw15
  generalize lcF (itF (takeF (varF 15))) (nameT 4) (tstF (binF ltP (binF mulP (binF ixP (varF 4) (cF (.int 0))) (binF ixP (varF 5) (cF (.int 1)))) (binF mulP (binF ixP (varF 5) (cF (.int 0))) (binF ixP (varF 4) (cF (.int 1)))))) (takeF (cF (.int 1))) [4] = L1 at *
  simp [seqF, skipF, ifF, retF, retR, setF, setR, parF, asgF, asgR, dropF, Out.bind, cF, varF, valF, takeF, takeR, binF, op2, op1, unF, opN, rds, rdP, outR, calF, consF, nilF, callF, callR, loads, loadR, tstF, tstR, andF, orF, notF, andVF, orVF, notVF, boolR, ifEF, chF, tupF, tupR, vals, lstF, lstR, fnF, Rv.rs, stF, stR, getL, slL, putL, Sl.put, h]
theorem S16 {x0 x1 x2 x3 x6 x8 x9 x10 x11 x12 x13 x14 x16 x17 x18 x4 : Sl} {p4 p7 : P} (h4 : x4 = .val p4 ∨ x4 = .no) {l : List Q2} {m : Q2} (hl : ∀ q ∈ l, Sb q) (hm : Sb m) :
    Slaw16 [x0, x1, x2, x3, x4, .val (fr m), x6, .val p7, x8, x9, x10, x11, x12, x13, x14, .val (.lst (l.map fr)), x16, x17, x18] = .ok .nx [x0, x1, x2, x3, x4, .val (fr m), x6, .val (.int (l.filter fun q => decide (m.1 * q.2 < q.1 * m.2)).length), x8, x9, x10, x11, x12, x13, x14, .val (.lst (l.map fr)), x16, x17, x18] := by
  have i0 : ∀ r : Q2, ixP (fr r) (.int 0) = some (.val (.int r.1)) := fun r => ix0
  have i1 : ∀ r : Q2, ixP (fr r) (.int 1) = some (.val (.int r.2)) := fun r => ix1
  have h := lc_cnt (x0 := x0) (x1 := x1) (x2 := x2) (x3 := x3) (x5 := .val (fr m)) (x6 := x6) (x7 := .val p7) (x8 := x8) (x9 := x9) (x10 := x10) (x11 := x11) (x12 := x12) (x13 := x13) (x14 := x14) (x16 := x16) (x17 := x17) (x18 := x18) (l := l) h4
    (tt := tstF (binF gtP (binF mulP (binF ixP (varF 4) (cF (.int 0))) (binF ixP (varF 5) (cF (.int 1)))) (binF mulP (binF ixP (varF 5) (cF (.int 0))) (binF ixP (varF 4) (cF (.int 1)))))) (f := fun q => decide (m.1 * q.2 < q.1 * m.2)) (fun q hq => by
      have := hl q hq
      simp [seqF, skipF, ifF, retF, retR, setF, setR, parF, asgF, asgR, dropF, Out.bind, cF, varF, valF, takeF, takeR, binF, op2, op1, unF, opN, rds, rdP, outR, calF, consF, nilF, callF, callR, loads, loadR, tstF, tstR, andF, orF, notF, andVF, orVF, notVF, boolR, ifEF, chF, tupF, tupR, vals, lstF, lstR, fnF, Rv.rs, stF, stR, getL, slL, putL, Sl.put, i0, i1, mulP_sm, sm9 this.1, sm9 hm.1, sm9 this.bot, sm9 hm.bot])
  unfold Slaw16
  generalize lcF (itF (takeF (varF 15))) (nameT 4) (tstF (binF gtP (binF mulP (binF ixP (varF 4) (cF (.int 0))) (binF ixP (varF 5) (cF (.int 1)))) (binF mulP (binF ixP (varF 5) (cF (.int 0))) (binF ixP (varF 4) (cF (.int 1)))))) (takeF (cF (.int 1))) [4] = L1 at *
  simp [seqF, skipF, ifF, retF, retR, setF, setR, parF, asgF, asgR, dropF, Out.bind, cF, varF, valF, takeF, takeR, binF, op2, op1, unF, opN, rds, rdP, outR, calF, consF, nilF, callF, callR, loads, loadR, tstF, tstR, andF, orF, notF, andVF, orVF, notVF, boolR, ifEF, chF, tupF, tupR, vals, lstF, lstR, fnF, Rv.rs, stF, stR, getL, slL, putL, Sl.put, h]
theorem datl {l : List Q2} : dat 60 (.lst (l.map fr)) = true := by
  show ((l.map fr).all (dat 59)) = true
  rw [List.all_eq_true]
  intro p hp
  obtain ⟨q, _, rfl⟩ := List.mem_map.mp hp
  unfold fr
  simp [seqF, skipF, ifF, retF, retR, setF, setR, parF, asgF, asgR, dropF, Out.bind, cF, varF, valF, takeF, takeR, binF, op2, op1, unF, opN, rds, rdP, outR, calF, consF, nilF, callF, callR, loads, loadR, tstF, tstR, andF, orF, notF, andVF, orVF, notVF, boolR, ifEF, chF, tupF, tupR, vals, lstF, lstR, fnF, Rv.rs, stF, stR, getL, slL, putL, Sl.put, dat, dat_int]
theorem notin_ok {l : List Q2} {m : Q2} (h : m ∈ l) : inLP true (fr m) (.lst (l.map fr)) = some (.val (.bl false)) := by
  show (if dat 60 (fr m) = true ∧ dat 60 (.lst (l.map fr)) = true then ib (if true = true then !(l.map fr).any (fun z => eqv z (fr m)) else (l.map fr).any fun z => eqv z (fr m)) else none) = _
  rw [if_pos ⟨dat_fr, datl⟩, if_pos rfl]
  have : (l.map fr).any (fun z => eqv z (fr m)) = true := by
    rw [List.any_eq_true]
    refine ⟨fr m, List.mem_map.mpr ⟨m, h, rfl⟩, ?_⟩
    simp [seqF, skipF, ifF, retF, retR, setF, setR, parF, asgF, asgR, dropF, Out.bind, cF, varF, valF, takeF, takeR, binF, op2, op1, unF, opN, rds, rdP, outR, calF, consF, nilF, callF, callR, loads, loadR, tstF, tstR, andF, orF, notF, andVF, orVF, notVF, boolR, ifEF, chF, tupF, tupR, vals, lstF, lstR, fnF, Rv.rs, stF, stR, getL, slL, putL, Sl.put, eqv, fr, toD, toDs, PyData.eqv, PyData.eqvAll]
  rw [this]
  rfl
theorem S17 {x0 x1 x2 x3 x4 x8 x9 x10 x11 x12 x13 x14 x16 x17 x18 : Sl} {l : List Q2} {m : Q2} {b a : Nat} (hb : 2 * b ≤ l.length) (ha : 2 * a ≤ l.length) (hn : l.length ≤ 1000) (ho : l.length % 2 = 1 → m ∈ l) :
    Slaw17 [x0, x1, x2, x3, x4, .val (fr m), .val (.int b), .val (.int a), x8, x9, x10, x11, x12, x13, x14, .val (.lst (l.map fr)), x16, x17, x18] = .ok .nx [x0, x1, x2, x3, x4, .val (fr m), .val (.int b), .val (.int a), x8, x9, x10, x11, x12, x13, x14, .val (.lst (l.map fr)), x16, x17, x18] := by
  have s2 : Sm 2 := by unfold Sm; omega
  have sb : Sm (b : Int) := by unfold Sm; omega
  have sa : Sm (a : Int) := by unfold Sm; omega
  have hlp : lenP [.lst (l.map fr)] = some (.val (.int (l.length : Int))) := by rw [lenP_lst, List.length_map]
  have h1 : ¬ (l.length : Int) < 2 * (b : Int) := by omega
  have h2 : ¬ (l.length : Int) < 2 * (a : Int) := by omega
  have hmod := modP_pos (i := (l.length : Int)) (show (0 : Int) < 2 by omega)
  unfold Slaw17
  by_cases h : l.length % 2 = 1
  · have hni := notin_ok (ho h)
    have h3 : (l.length : Int) % 2 = 1 := by omega
    generalize P.lst (l.map fr) = W at *
    simp [seqF, skipF, ifF, retF, retR, setF, setR, parF, asgF, asgR, dropF, Out.bind, cF, varF, valF, takeF, takeR, binF, op2, op1, unF, opN, rds, rdP, outR, calF, consF, nilF, callF, callR, loads, loadR, tstF, tstR, andF, orF, notF, andVF, orVF, notVF, boolR, ifEF, chF, tupF, tupR, vals, lstF, lstR, fnF, Rv.rs, stF, stR, getL, slL, putL, Sl.put, hlp, mulP_sm s2 sb, mulP_sm s2 sa, h1, h2, hmod, h3, hni]
  · have h3 : ¬ (l.length : Int) % 2 = 1 := by omega
    generalize P.lst (l.map fr) = W at *
    simp [seqF, skipF, ifF, retF, retR, setF, setR, parF, asgF, asgR, dropF, Out.bind, cF, varF, valF, takeF, takeR, binF, op2, op1, unF, opN, rds, rdP, outR, calF, consF, nilF, callF, callR, loads, loadR, tstF, tstR, andF, orF, notF, andVF, orVF, notVF, boolR, ifEF, chF, tupF, tupR, vals, lstF, lstR, fnF, Rv.rs, stF, stR, getL, slL, putL, Sl.put, hlp, mulP_sm s2 sb, mulP_sm s2 sa, h1, h2, hmod, h3]
end PV

set_option maxHeartbeats 4000000
namespace PV
open PySem L2

theorem S19 {x0 x1 x2 x3 x4 x5 x6 x7 x8 x9 x10 x11 x12 x14 x15 x16 x17 x18 : Sl} {p : Q2} (hp : Sb p) (hc : Int.gcd p.1 p.2 = 1) :
    ∃ π', Slaw19 [x0, x1, x2, x3, x4, x5, x6, x7, x8, x9, x10, x11, x12, .val (fr p), x14, x15, x16, x17, x18] = .ok (.rt (.val (.bl true))) π' := by
  have hw := want_ok (x := p.1) (y := p.2) (sm9 hp.1) (sm9 hp.bot) hp.2.1 (red_idem hc hp.2.1)
  have al := alike_ok 4 (fr p) alk_fr
  have hfr : fr (p.1, p.2) = fr p := rfl
  rw [hfr] at hw
  have hl : listP [fr p] = some (.own (.lst [.int p.1, .int p.2])) := rfl
  unfold Slaw19
  generalize hf : fr p = f at *
  simp [seqF, skipF, ifF, retF, retR, setF, setR, parF, asgF, asgR, dropF, Out.bind, cF, varF, valF, takeF, takeR, binF, op2, op1, unF, opN, rds, rdP, outR, calF, consF, nilF, callF, callR, loads, loadR, tstF, tstR, andF, orF, notF, andVF, orVF, notVF, boolR, ifEF, chF, tupF, tupR, vals, lstF, lstR, fnF, Rv.rs, stF, stR, getL, slL, putL, Sl.put, hl, hw, al]
/-- the values that are no fractions -/
def badV : List P := [.non, .tup [.int 1, .int 0], .tup [.int 2, .int 4], .tup [.int 0, .int 2], .tup [.int 1], .tup [.bl true, .int 2], .lst [.int 1, .int 2, .int 3], .int 5, .tup [.int 1, .int (-1)]]
def Bad (p : P) : Prop := Fis_fraction [.val p] = .ok (.val (.bl false)) [.val p] ∧ Fwant_fraction [.val p] = .exc 1 [p] [.val p] ∧ ∃ s, reprP [p] = some (.val (.str s)) ∧ PyData.strOk s = true
theorem bad_all : ∀ p ∈ badV, Bad p := by
  have h : ∀ p, (Fis_fraction [.val p] = .ok (.val (.bl false)) [.val p]) → (∃ s, reprP [p] = some (.val (.str s)) ∧ PyData.strOk s = true) → Bad p := fun p h1 h2 => by
    refine ⟨h1, ?_, h2⟩
    unfold Fwant_fraction Bwant_fraction
    simp [seqF, skipF, ifF, retF, retR, setF, setR, parF, asgF, asgR, dropF, Out.bind, cF, varF, valF, takeF, takeR, binF, op2, op1, unF, opN, rds, rdP, outR, calF, consF, nilF, callF, callR, loads, loadR, tstF, tstR, andF, orF, notF, andVF, orVF, notVF, boolR, ifEF, chF, tupF, tupR, vals, lstF, lstR, fnF, Rv.rs, stF, stR, getL, slL, putL, Sl.put, h1, raiseF, raiseR, backA]
  have r : ∀ p, (dat 60 p && (toD p).showable && !(toD p).hasDict && decide ((toD p).shown.length ≤ 1000000) && PyData.strOk (toD p).shown) = true → ∃ s, reprP [p] = some (.val (.str s)) ∧ PyData.strOk s = true := fun p hp => by
    simp only [Bool.and_eq_true, decide_eq_true_eq, Bool.not_eq_true'] at hp
    refine ⟨(toD p).shown, ?_, hp.2⟩
    unfold reprP
    simp only []
    rw [if_pos ⟨hp.1.1.1.1, hp.1.1.1.2, hp.1.1.2, hp.1.2⟩]
  intro p hp
  simp only [badV, List.mem_cons, List.not_mem_nil, or_false] at hp
  rcases hp with rfl | rfl | rfl | rfl | rfl | rfl | rfl | rfl | rfl
  · exact h _ rfl (r _ (by decide +kernel))
  · exact h _ rfl (r _ (by decide +kernel))
  · exact h _ (by kernel_rfl) (r _ (by decide +kernel))
  · exact h _ (by kernel_rfl) (r _ (by decide +kernel))
  · exact h _ rfl (r _ (by decide +kernel))
  · exact h _ rfl (r _ (by decide +kernel))
  · exact h _ rfl (r _ (by decide +kernel))
  · exact h _ rfl (r _ (by decide +kernel))
  · exact h _ rfl (r _ (by decide +kernel))
theorem neP_str {s : Str} (h : PyData.strOk s = true) : neP (.str s) (.str s) = some (.val (.bl false)) := by
  unfold neP
  have hd : dat 60 (.str s) = true := by unfold dat; exact h
  rw [if_pos ⟨hd, hd⟩]
  simp [seqF, skipF, ifF, retF, retR, setF, setR, parF, asgF, asgR, dropF, Out.bind, cF, varF, valF, takeF, takeR, binF, op2, op1, unF, opN, rds, rdP, outR, calF, consF, nilF, callF, callR, loads, loadR, tstF, tstR, andF, orF, notF, andVF, orVF, notVF, boolR, ifEF, chF, tupF, tupR, vals, lstF, lstR, fnF, Rv.rs, stF, stR, getL, slL, putL, Sl.put, ib, eqv, toD, PyData.eqv]
noncomputable abbrev badBody : M Fl := seqF (ifF (tstF (callF (Fis_fraction) (consF (valF (takeF (varF 8))) (nilF)))) (retF (cF (.bl false))) (skipF))
  (tryF sub_k10 2 17 1 (seqF (dropF (callF (Fwant_fraction) (consF (valF (takeF (varF 8))) (nilF))))
  (retF (cF (.bl false)))) (fun _ ps => ifF (tstF (binF neP (calF reprP (consF (xfF ps 0) (nilF))) (calF reprP (consF (varF 8) (nilF))))) (retF (cF (.bl false))) (skipF)))
theorem loop_bad {x0 x1 x2 x3 x4 x5 x6 x7 x9 x10 x11 x12 x13 x14 x15 x16 x18 : Sl} : ∀ (l : List P) (x8 : Sl), NL x8 → (∀ p ∈ l, Bad p) → ∃ x8', loopF (nameT 8) badBody l [x0, x1, x2, x3, x4, x5, x6, x7, x8, x9, x10, x11, x12, x13, x14, x15, x16, .no, x18] = .ok .nx [x0, x1, x2, x3, x4, x5, x6, x7, x8', x9, x10, x11, x12, x13, x14, x15, x16, .no, x18]
  | [], x8, _, _ => ⟨x8, rfl⟩
  | p :: l, x8, h8, h => by
    obtain ⟨h1, h2, s, h3, h9⟩ := h p List.mem_cons_self
    obtain ⟨x', ih⟩ := loop_bad (x0 := x0) (x1 := x1) (x2 := x2) (x3 := x3) (x4 := x4) (x5 := x5) (x6 := x6) (x7 := x7) (x9 := x9) (x10 := x10) (x11 := x11) (x12 := x12) (x13 := x13) (x14 := x14) (x15 := x15) (x16 := x16) (x18 := x18) l (.val p) nl_val fun q hq => h q (List.mem_cons_of_mem _ hq)
    refine ⟨x', ?_⟩
    have ht : nameT 8 p [x0, x1, x2, x3, x4, x5, x6, x7, x8, x9, x10, x11, x12, x13, x14, x15, x16, .no, x18] = some [x0, x1, x2, x3, x4, x5, x6, x7, .val p, x9, x10, x11, x12, x13, x14, x15, x16, .no, x18] := by
      cases x8 with
      | loan o => exact absurd rfl (h8 o)
      | _ => rfl
    have hs : sub_k10 1 1 = true := rfl
    have hb : badBody [x0, x1, x2, x3, x4, x5, x6, x7, .val p, x9, x10, x11, x12, x13, x14, x15, x16, .no, x18] = .ok .nx [x0, x1, x2, x3, x4, x5, x6, x7, .val p, x9, x10, x11, x12, x13, x14, x15, x16, .no, x18] := by
      unfold badBody
      simp [seqF, skipF, ifF, retF, retR, setF, setR, parF, asgF, asgR, dropF, Out.bind, cF, varF, valF, takeF, takeR, binF, op2, op1, unF, opN, rds, rdP, outR, calF, consF, nilF, callF, callR, loads, loadR, tstF, tstR, andF, orF, notF, andVF, orVF, notVF, boolR, ifEF, chF, tupF, tupR, vals, lstF, lstR, fnF, Rv.rs, stF, stR, getL, slL, putL, Sl.put, h1, tryF, h2, hs, notL, hndR, xfF, h3, neP_str h9]
    unfold loopF
    simp only [ht, hb, Out.bind]
    exact ih
theorem S18 {x0 x1 x2 x3 x4 x5 x6 x7 x9 x10 x11 x12 x13 x14 x15 x16 x18 : Sl} : ∃ x8', Slaw18 [x0, x1, x2, x3, x4, x5, x6, x7, .no, x9, x10, x11, x12, x13, x14, x15, x16, .no, x18] = .ok .nx [x0, x1, x2, x3, x4, x5, x6, x7, x8', x9, x10, x11, x12, x13, x14, x15, x16, .no, x18] := by
  obtain ⟨x', h⟩ := loop_bad (x0 := x0) (x1 := x1) (x2 := x2) (x3 := x3) (x4 := x4) (x5 := x5) (x6 := x6) (x7 := x7) (x9 := x9) (x10 := x10) (x11 := x11) (x12 := x12) (x13 := x13) (x14 := x14) (x15 := x15) (x16 := x16) (x18 := x18) badV .no nl_no bad_all
  refine ⟨x', ?_⟩
  unfold Slaw18
  show forF _ (nameT 8) badBody _ = _
  generalize badBody = B at *
  unfold forF itF
  simp [seqF, skipF, ifF, retF, retR, setF, setR, parF, asgF, asgR, dropF, Out.bind, cF, varF, valF, takeF, takeR, binF, op2, op1, unF, opN, rds, rdP, outR, calF, consF, nilF, callF, callR, loads, loadR, tstF, tstR, andF, orF, notF, andVF, orVF, notVF, boolR, ifEF, chF, tupF, tupR, vals, lstF, lstR, fnF, Rv.rs, stF, stR, getL, slL, putL, Sl.put, itR, seqItems]
  exact h
end PV

set_option maxHeartbeats 4000000
namespace PV
open PySem L2
theorem add_fb {X Y A B : Int} {p q : Q2} (h : Fb X Y p) (k : Fb A B q) : Fb (X * B + A * Y) (Y * B) (addF p q) := by
  have h1 := ab_mul h.1 k.bot
  have h2 := ab_mul k.1 h.bot
  have h3 := ab_mul h.bot k.bot
  refine red_fb ?_ (one_mul_pos h.2.1 k.2.1) h3.2
  unfold Ab at *
  omega
theorem chain_cons {X Y A B : Int} {acc p : Q2} {l : List Q2} (h : Fb X Y acc) (k : Fb A B p) (hX : X ≤ 10 ^ 9) (hY : Y ≤ 10 ^ 9) (hA : A ≤ 10 ^ 9) (hB : B ≤ 10 ^ 9) (hYB : Y * B ≤ 6000000) (t : Chain (addF acc p) l) : Chain acc (p :: l) :=
  ⟨h.le hX hY, k.le hA hB, Int.le_trans (ab_mul h.bot k.bot).2 hYB, t⟩
theorem chain_rows {p q : Q2} (hp : Fb 60 60 p) (hq : Fb 60 60 q) : ∀ {rest : List Q2}, rest.length ≤ 4 → (∀ r ∈ rest, Fb 20 6 r) → Chain (0, 1) (p :: q :: rest) := by
  intro rest hl hr
  have f0 : Fb 0 1 ((0, 1) : Q2) := ⟨⟨by decide, by decide⟩, by decide, by decide⟩
  have f1 : Fb 60 60 (addF (0, 1) p) := add_fb f0 hp
  have f2 : Fb 7200 3600 (addF (addF (0, 1) p) q) := add_fb f1 hq
  refine chain_cons f0 hp (by decide) (by decide) (by decide) (by decide) (by decide) (chain_cons f1 hq (by decide) (by decide) (by decide) (by decide) (by decide) ?_)
  generalize addF (addF (0, 1) p) q = acc at *
  match rest, hl, hr with
  | [], _, _ => exact f2.le (by decide) (by decide)
  | [a], _, hr =>
    have ha := hr a (by simp [seqF, skipF, ifF, retF, retR, setF, setR, parF, asgF, asgR, dropF, Out.bind, cF, varF, valF, takeF, takeR, binF, op2, op1, unF, opN, rds, rdP, outR, calF, consF, nilF, callF, callR, loads, loadR, tstF, tstR, andF, orF, notF, andVF, orVF, notVF, boolR, ifEF, chF, tupF, tupR, vals, lstF, lstR, fnF, Rv.rs, stF, stR, getL, slL, putL, Sl.put])
    exact chain_cons f2 ha (by decide) (by decide) (by decide) (by decide) (by decide) ((add_fb f2 ha).le (by decide) (by decide))
  | [a, b], _, hr =>
    have ha := hr a (by simp [seqF, skipF, ifF, retF, retR, setF, setR, parF, asgF, asgR, dropF, Out.bind, cF, varF, valF, takeF, takeR, binF, op2, op1, unF, opN, rds, rdP, outR, calF, consF, nilF, callF, callR, loads, loadR, tstF, tstR, andF, orF, notF, andVF, orVF, notVF, boolR, ifEF, chF, tupF, tupR, vals, lstF, lstR, fnF, Rv.rs, stF, stR, getL, slL, putL, Sl.put])
    have hb := hr b (by simp [seqF, skipF, ifF, retF, retR, setF, setR, parF, asgF, asgR, dropF, Out.bind, cF, varF, valF, takeF, takeR, binF, op2, op1, unF, opN, rds, rdP, outR, calF, consF, nilF, callF, callR, loads, loadR, tstF, tstR, andF, orF, notF, andVF, orVF, notVF, boolR, ifEF, chF, tupF, tupR, vals, lstF, lstR, fnF, Rv.rs, stF, stR, getL, slL, putL, Sl.put])
    have f3 : Fb 115200 21600 (addF acc a) := add_fb f2 ha
    exact chain_cons f2 ha (by decide) (by decide) (by decide) (by decide) (by decide) (chain_cons f3 hb (by decide) (by decide) (by decide) (by decide) (by decide) ((add_fb f3 hb).le (by decide) (by decide)))
  | [a, b, c], _, hr =>
    have ha := hr a (by simp [seqF, skipF, ifF, retF, retR, setF, setR, parF, asgF, asgR, dropF, Out.bind, cF, varF, valF, takeF, takeR, binF, op2, op1, unF, opN, rds, rdP, outR, calF, consF, nilF, callF, callR, loads, loadR, tstF, tstR, andF, orF, notF, andVF, orVF, notVF, boolR, ifEF, chF, tupF, tupR, vals, lstF, lstR, fnF, Rv.rs, stF, stR, getL, slL, putL, Sl.put])
    have hb := hr b (by simp [seqF, skipF, ifF, retF, retR, setF, setR, parF, asgF, asgR, dropF, Out.bind, cF, varF, valF, takeF, takeR, binF, op2, op1, unF, opN, rds, rdP, outR, calF, consF, nilF, callF, callR, loads, loadR, tstF, tstR, andF, orF, notF, andVF, orVF, notVF, boolR, ifEF, chF, tupF, tupR, vals, lstF, lstR, fnF, Rv.rs, stF, stR, getL, slL, putL, Sl.put])
    have hc := hr c (by simp [seqF, skipF, ifF, retF, retR, setF, setR, parF, asgF, asgR, dropF, Out.bind, cF, varF, valF, takeF, takeR, binF, op2, op1, unF, opN, rds, rdP, outR, calF, consF, nilF, callF, callR, loads, loadR, tstF, tstR, andF, orF, notF, andVF, orVF, notVF, boolR, ifEF, chF, tupF, tupR, vals, lstF, lstR, fnF, Rv.rs, stF, stR, getL, slL, putL, Sl.put])
    have f3 : Fb 115200 21600 (addF acc a) := add_fb f2 ha
    have f4 : Fb 1123200 129600 (addF (addF acc a) b) := add_fb f3 hb
    exact chain_cons f2 ha (by decide) (by decide) (by decide) (by decide) (by decide) (chain_cons f3 hb (by decide) (by decide) (by decide) (by decide) (by decide) (chain_cons f4 hc (by decide) (by decide) (by decide) (by decide) (by decide) ((add_fb f4 hc).le (by decide) (by decide))))
  | [a, b, c, d], _, hr =>
    have ha := hr a (by simp [seqF, skipF, ifF, retF, retR, setF, setR, parF, asgF, asgR, dropF, Out.bind, cF, varF, valF, takeF, takeR, binF, op2, op1, unF, opN, rds, rdP, outR, calF, consF, nilF, callF, callR, loads, loadR, tstF, tstR, andF, orF, notF, andVF, orVF, notVF, boolR, ifEF, chF, tupF, tupR, vals, lstF, lstR, fnF, Rv.rs, stF, stR, getL, slL, putL, Sl.put])
    have hb := hr b (by simp [seqF, skipF, ifF, retF, retR, setF, setR, parF, asgF, asgR, dropF, Out.bind, cF, varF, valF, takeF, takeR, binF, op2, op1, unF, opN, rds, rdP, outR, calF, consF, nilF, callF, callR, loads, loadR, tstF, tstR, andF, orF, notF, andVF, orVF, notVF, boolR, ifEF, chF, tupF, tupR, vals, lstF, lstR, fnF, Rv.rs, stF, stR, getL, slL, putL, Sl.put])
    have hc := hr c (by simp [seqF, skipF, ifF, retF, retR, setF, setR, parF, asgF, asgR, dropF, Out.bind, cF, varF, valF, takeF, takeR, binF, op2, op1, unF, opN, rds, rdP, outR, calF, consF, nilF, callF, callR, loads, loadR, tstF, tstR, andF, orF, notF, andVF, orVF, notVF, boolR, ifEF, chF, tupF, tupR, vals, lstF, lstR, fnF, Rv.rs, stF, stR, getL, slL, putL, Sl.put])
    have hd := hr d (by simp [seqF, skipF, ifF, retF, retR, setF, setR, parF, asgF, asgR, dropF, Out.bind, cF, varF, valF, takeF, takeR, binF, op2, op1, unF, opN, rds, rdP, outR, calF, consF, nilF, callF, callR, loads, loadR, tstF, tstR, andF, orF, notF, andVF, orVF, notVF, boolR, ifEF, chF, tupF, tupR, vals, lstF, lstR, fnF, Rv.rs, stF, stR, getL, slL, putL, Sl.put])
    have f3 : Fb 115200 21600 (addF acc a) := add_fb f2 ha
    have f4 : Fb 1123200 129600 (addF (addF acc a) b) := add_fb f3 hb
    have f5 : Fb 9331200 777600 (addF (addF (addF acc a) b) c) := add_fb f4 hc
    exact chain_cons f2 ha (by decide) (by decide) (by decide) (by decide) (by decide) (chain_cons f3 hb (by decide) (by decide) (by decide) (by decide) (by decide) (chain_cons f4 hc (by decide) (by decide) (by decide) (by decide) (by decide) (chain_cons f5 hd (by decide) (by decide) (by decide) (by decide) (by decide) ((add_fb f5 hd).le (by decide) (by decide)))))
  | _ :: _ :: _ :: _ :: _ :: _, hl, _ => exact absurd hl (by simp [seqF, skipF, ifF, retF, retR, setF, setR, parF, asgF, asgR, dropF, Out.bind, cF, varF, valF, takeF, takeR, binF, op2, op1, unF, opN, rds, rdP, outR, calF, consF, nilF, callF, callR, loads, loadR, tstF, tstR, andF, orF, notF, andVF, orVF, notVF, boolR, ifEF, chF, tupF, tupR, vals, lstF, lstR, fnF, Rv.rs, stF, stR, getL, slL, putL, Sl.put])
theorem seq_nx {f g : M Fl} {π π1 : En} {o : Out Fl} (h : f π = .ok .nx π1) (k : g π1 = o) : seqF f g π = o := by
  show (f π).bind _ = o
  rw [h]
  exact k
theorem plain (ns : List Int) (hns : ns.length ≤ 63) : ∃ πs, Flaw [.val (.scr ns)] = .ok (.val (.bl true)) πs := by
  have main : ∃ π', Blaw [.val (.scr ns), .no, .no, .no, .no, .no, .no, .no, .no, .no, .no, .no, .no, .no, .no, .no, .no, .no, .no] = .ok (.rt (.val (.bl true))) π' := by
    have r0 : Row ns [.scr ns, .int 0, .int 61, .int 0] := ⟨0, 61, 0, rfl, by omega, by omega, by omega⟩
    obtain ⟨a, b, c, d, o2, ha, hb, hc, hd, r2, s2⟩ := S2 (x0 := .val (.scr ns)) (x2 := .no) (x3 := .no) (x4 := .no) (x5 := .no) (x6 := .no) (x7 := .no) (x8 := .no) (x13 := .no) (x14 := .no) (x15 := .no) (x16 := .no) (x17 := .no) (x18 := .no) r0
    have fp := red_fb ha hb.1 hb.2
    have fq := red_fb hc hd.1 hd.2
    have cp := red_cop (a := a) hb.1
    have cq := red_cop (a := c) hd.1
    obtain ⟨rest, o3, r3, hrl, hrest, s11⟩ := S11 (x0 := .val (.scr ns)) (x2 := .val (.lst (wl.map P.int))) (x3 := .val (.int ((2 * a + b) / (2 * b)))) (x4 := .no) (x5 := .no) (x6 := .val (.int (a / b))) (x7 := .val (.int (-(-a / b)))) (x8 := .no) (x9 := .val (.int a)) (x10 := .val (.int b)) (x11 := .val (.int c)) (x12 := .val (.int d)) (x17 := .no) (p := red a b) (q := red c d) r2
    have hch := chain_rows fp fq hrl fun r hr => (hrest r hr).1
    have s10 := S10 (x0 := .val (.scr ns)) (x1 := .own (.lst o2)) (x2 := .val (.lst (wl.map P.int))) (x4 := .no) (x5 := .no) (x8 := .no) (x9 := .val (.int a)) (x10 := .val (.int b)) (x11 := .val (.int c)) (x12 := .val (.int d)) (x14 := .val (fr (red c d))) (x15 := .no) (x16 := .no) (x17 := .no) (x18 := .no) ha hb
    have s3 := S3 (x0 := .val (.scr ns)) (x1 := .own (.lst o2)) (x2 := .no) (x3 := .no) (x4 := .no) (x5 := .no) (x6 := .no) (x7 := .no) (x8 := .no) (x15 := .no) (x16 := .no) (x17 := .no) (x18 := .no) ha hb hc hd
    have s4 := S4 (x0 := .val (.scr ns)) (x1 := .own (.lst o2)) (x2 := .no) (x3 := .no) (x4 := .no) (x5 := .no) (x6 := .no) (x7 := .no) (x8 := .no) (x15 := .no) (x16 := .no) (x17 := .no) (x18 := .no) ha hb hc hd
    have s5 := S5 (x0 := .val (.scr ns)) (x1 := .own (.lst o2)) (x2 := .no) (x3 := .no) (x4 := .no) (x5 := .no) (x6 := .no) (x7 := .no) (x8 := .no) (x15 := .no) (x16 := .no) (x17 := .no) (x18 := .no) ha hb hc hd
    have s6 := S6 (x0 := .val (.scr ns)) (x1 := .own (.lst o2)) (x2 := .no) (x3 := .no) (x4 := .no) (x5 := .no) (x6 := .no) (x7 := .no) (x8 := .no) (x15 := .no) (x16 := .no) (x17 := .no) (x18 := .no) ha hb hc hd
    have hall : ∀ r ∈ red a b :: red c d :: rest, Fb 60 60 r ∧ Int.gcd r.1 r.2 = 1 := fun r hr => by
      rcases List.mem_cons.mp hr with e | hr
      · rw [e]; exact ⟨fp, cp⟩
      · rcases List.mem_cons.mp hr with e | hr
        · rw [e]; exact ⟨fq, cq⟩
        · exact ⟨(hrest r hr).1.le (by decide) (by decide), (hrest r hr).2⟩
    have hpb : Sb (red a b) := fp.le (by decide) (by decide)
    generalize red a b = p at *
    generalize red c d = q at *
    obtain ⟨x4', hx4, s12⟩ := S12 (x0 := .val (.scr ns)) (x1 := .own (.lst o3)) (x2 := .val (.lst (wl.map P.int))) (x3 := .val (.int ((2 * a + b) / (2 * b)))) (x4 := .no) (x5 := .no) (x6 := .val (.int (a / b))) (x7 := .val (.int (-(-a / b)))) (x8 := .no) (x9 := .val (.int a)) (x10 := .val (.int b)) (x11 := .val (.int c)) (x12 := .val (.int d)) (x13 := .val (fr p)) (x14 := .val (fr q)) (x17 := .no) (x18 := .no) nl_no hch
    have s13 := S13 (x0 := .val (.scr ns)) (x1 := .own (.lst o3)) (x2 := .val (.lst (wl.map P.int))) (x3 := .val (.int ((2 * a + b) / (2 * b)))) (x4 := x4') (x5 := .no) (x6 := .val (.int (a / b))) (x7 := .val (.int (-(-a / b)))) (x8 := .no) (x9 := .val (.int a)) (x10 := .val (.int b)) (x11 := .val (.int c)) (x12 := .val (.int d)) (x13 := .val (fr p)) (x14 := .val (fr q)) (x17 := .no) (x18 := .no) hch
    obtain ⟨p4, hx4'⟩ : ∃ p4, x4' = .val p4 ∨ x4' = .no := by
      rcases hx4 with e | ⟨p4, e⟩
      · exact ⟨.non, .inr e⟩
      · exact ⟨p4, .inl e⟩
    -- the sorted rows
    have hpos : Pos2 (q :: rest) := fun r hr => by have := (hall r (List.mem_cons_of_mem _ hr)).1.2.1; omega
    have hpos1 : Pos2 [p] := fun r hr => by
      have e : r = p := by simpa [seqF, skipF, ifF, retF, retR, setF, setR, parF, asgF, asgR, dropF, Out.bind, cF, varF, valF, takeF, takeR, binF, op2, op1, unF, opN, rds, rdP, outR, calF, consF, nilF, callF, callR, loads, loadR, tstF, tstR, andF, orF, notF, andVF, orVF, notVF, boolR, ifEF, chF, tupF, tupR, vals, lstF, lstR, fnF, Rv.rs, stF, stR, getL, slL, putL, Sl.put] using hr
      rw [e]; have := fp.2.1; omega
    obtain ⟨hsrt, hperm⟩ := fold_srt (q :: rest) [p] hpos hpos1 (List.pairwise_singleton _ _)
    have hperm2 : (sortQ (p :: q :: rest)).Perm (p :: q :: rest) := hperm.trans (List.perm_append_comm (l₁ := q :: rest) (l₂ := [p]))
    have hsrt2 : Srt (sortQ (p :: q :: rest)) := hsrt
    have hlen : (sortQ (p :: q :: rest)).length = (q :: rest).length + 1 := hperm2.length_eq
    have hposS : Pos2 (sortQ (p :: q :: rest)) := fun r hr => by have := (hall r (hperm2.mem_iff.mp hr)).1.2.1; omega
    generalize hS : sortQ (p :: q :: rest) = S at *
    obtain ⟨f, e1⟩ : ∃ f, S[(q :: rest).length / 2]? = some f := ⟨_, List.getElem?_eq_getElem (by omega)⟩
    obtain ⟨s, e2⟩ : ∃ s, S[((q :: rest).length + 1) / 2]? = some s := ⟨_, List.getElem?_eq_getElem (by omega)⟩
    have mf := hperm2.mem_iff.mp (List.mem_of_getElem? e1)
    have ms := hperm2.mem_iff.mp (List.mem_of_getElem? e2)
    have hf := hall f mf
    have hs := hall s ms
    have hfs : Fb 7200 3600 (addF f s) := add_fb hf.1 hs.1
    have hm : Fb 7200 7200 (midF f s) := by
      unfold midF
      refine red_fb (by have := hfs.1; unfold Ab at *; omega) (by have := hfs.2.1; omega) (by have := hfs.2.2; omega)
    have hSb : ∀ r ∈ p :: q :: rest, Sb r := fun r hr => (hall r hr).1.le (by decide) (by decide)
    have hmS : Sb (midF f s) := hm.le (by decide) (by decide)
    have s14 := S14 (x0 := .val (.scr ns)) (x1 := .own (.lst o3)) (x2 := .val (.lst (wl.map P.int))) (x3 := .val (.int ((2 * a + b) / (2 * b)))) (x4 := x4') (x6 := .val (.int (a / b))) (x7 := .val (.int (-(-a / b)))) (x8 := .no) (x9 := .val (.int a)) (x10 := .val (.int b)) (x11 := .val (.int c)) (x12 := .val (.int d)) (x13 := .val (fr p)) (x14 := .val (fr q)) (x16 := .val (fr ((p :: q :: rest).foldl addF (0, 1)))) (x17 := .no) (x18 := .no)
      hSb (by simp [seqF, skipF, ifF, retF, retR, setF, setR, parF, asgF, asgR, dropF, Out.bind, cF, varF, valF, takeF, takeR, binF, op2, op1, unF, opN, rds, rdP, outR, calF, consF, nilF, callF, callR, loads, loadR, tstF, tstR, andF, orF, notF, andVF, orVF, notVF, boolR, ifEF, chF, tupF, tupR, vals, lstF, lstR, fnF, Rv.rs, stF, stR, getL, slL, putL, Sl.put]; omega) (by rw [hS]; exact hlen) (by rw [hS]; exact e1) (by rw [hS]; exact e2) (hf.1.le (by decide) (by decide)) (hs.1.le (by decide) (by decide)) (hfs.le (by decide) (by decide))
    have s15 := S15 (x0 := .val (.scr ns)) (x1 := .own (.lst o3)) (x2 := .val (.lst (wl.map P.int))) (x3 := .val (.int ((2 * a + b) / (2 * b)))) (x4 := x4') (p6 := .int (a / b)) (x7 := .val (.int (-(-a / b)))) (x8 := .no) (x9 := .val (.int a)) (x10 := .val (.int b)) (x11 := .val (.int c)) (x12 := .val (.int d)) (x13 := .val (fr p)) (x14 := .val (fr q)) (x16 := .val (fr ((p :: q :: rest).foldl addF (0, 1)))) (x17 := .no) (x18 := .no) (l := p :: q :: rest) hx4' hSb hmS
    obtain ⟨hb2, ha2⟩ := below_le hsrt2 hposS (by omega) (by rw [hlen]; exact e1) (by rw [hlen]; exact e2) hmS.2.1 (midF_mid (hf.1.2.1) (hs.1.2.1))
    have c1 : (S.filter fun r => decide (r.1 * (midF f s).2 < (midF f s).1 * r.2)).length = ((p :: q :: rest).filter fun r => decide (r.1 * (midF f s).2 < (midF f s).1 * r.2)).length := (hperm2.filter _).length_eq
    have c2 : (S.filter fun r => decide ((midF f s).1 * r.2 < r.1 * (midF f s).2)).length = ((p :: q :: rest).filter fun r => decide ((midF f s).1 * r.2 < r.1 * (midF f s).2)).length := (hperm2.filter _).length_eq
    rw [c1, hperm2.length_eq] at hb2
    rw [c2, hperm2.length_eq] at ha2
    have hodd : (p :: q :: rest).length % 2 = 1 → midF f s ∈ p :: q :: rest := fun h => by
      have e : (q :: rest).length / 2 = ((q :: rest).length + 1) / 2 := by rw [List.length_cons] at h; omega
      rw [e, e2] at e1
      cases e1
      rw [midF_self hs.1.2.1 hs.2]
      exact ms
    generalize midF f s = m at *
    have s16 := S16 (x0 := .val (.scr ns)) (x1 := .own (.lst o3)) (x2 := .val (.lst (wl.map P.int))) (x3 := .val (.int ((2 * a + b) / (2 * b)))) (x4 := x4') (x6 := .val (.int ((p :: q :: rest).filter fun r => decide (r.1 * m.2 < m.1 * r.2)).length)) (p7 := .int (-(-a / b))) (x8 := .no) (x9 := .val (.int a)) (x10 := .val (.int b)) (x11 := .val (.int c)) (x12 := .val (.int d)) (x13 := .val (fr p)) (x14 := .val (fr q)) (x16 := .val (fr ((p :: q :: rest).foldl addF (0, 1)))) (x17 := .no) (x18 := .no) (l := p :: q :: rest) hx4' hSb hmS
    generalize ((p :: q :: rest).filter fun r => decide (r.1 * m.2 < m.1 * r.2)).length = nb at *
    generalize ((p :: q :: rest).filter fun r => decide (m.1 * r.2 < r.1 * m.2)).length = na at *
    have s17 := S17 (x0 := .val (.scr ns)) (x1 := .own (.lst o3)) (x2 := .val (.lst (wl.map P.int))) (x3 := .val (.int ((2 * a + b) / (2 * b)))) (x4 := x4') (x8 := .no) (x9 := .val (.int a)) (x10 := .val (.int b)) (x11 := .val (.int c)) (x12 := .val (.int d)) (x13 := .val (fr p)) (x14 := .val (fr q)) (x16 := .val (fr ((p :: q :: rest).foldl addF (0, 1)))) (x17 := .no) (x18 := .no) (m := m) hb2 ha2 (by simp [seqF, skipF, ifF, retF, retR, setF, setR, parF, asgF, asgR, dropF, Out.bind, cF, varF, valF, takeF, takeR, binF, op2, op1, unF, opN, rds, rdP, outR, calF, consF, nilF, callF, callR, loads, loadR, tstF, tstR, andF, orF, notF, andVF, orVF, notVF, boolR, ifEF, chF, tupF, tupR, vals, lstF, lstR, fnF, Rv.rs, stF, stR, getL, slL, putL, Sl.put]; omega) hodd
    obtain ⟨x8', s18⟩ := S18 (x0 := .val (.scr ns)) (x1 := .own (.lst o3)) (x2 := .val (.lst (wl.map P.int))) (x3 := .val (.int ((2 * a + b) / (2 * b)))) (x4 := x4') (x5 := .val (fr m)) (x6 := .val (.int nb)) (x7 := .val (.int na)) (x9 := .val (.int a)) (x10 := .val (.int b)) (x11 := .val (.int c)) (x12 := .val (.int d)) (x13 := .val (fr p)) (x14 := .val (fr q)) (x15 := .val (.lst ((p :: q :: rest).map fr))) (x16 := .val (fr ((p :: q :: rest).foldl addF (0, 1)))) (x18 := .no)
    obtain ⟨π', s19⟩ := S19 (x0 := .val (.scr ns)) (x1 := .own (.lst o3)) (x2 := .val (.lst (wl.map P.int))) (x3 := .val (.int ((2 * a + b) / (2 * b)))) (x4 := x4') (x5 := .val (fr m)) (x6 := .val (.int nb)) (x7 := .val (.int na)) (x8 := x8') (x9 := .val (.int a)) (x10 := .val (.int b)) (x11 := .val (.int c)) (x12 := .val (.int d)) (x14 := .val (fr q)) (x15 := .val (.lst ((p :: q :: rest).map fr))) (x16 := .val (fr ((p :: q :: rest).foldl addF (0, 1)))) (x17 := .no) (x18 := .no) hpb cp
    refine ⟨π', ?_⟩
    unfold Blaw
    exact seq_nx S1 (seq_nx s2 (seq_nx s3 (seq_nx s4 (seq_nx s5 (seq_nx s6 (seq_nx S7 (seq_nx (S8 ha hb) (seq_nx (S9 ha hb) (seq_nx s10 (seq_nx s11 (seq_nx s12 (seq_nx s13 (seq_nx s14 (seq_nx s15 (seq_nx s16 (seq_nx s17 (seq_nx s18 s19)))))))))))))))))
  obtain ⟨π', h⟩ := main
  refine ⟨backA [.val (.scr ns)] π', ?_⟩
  unfold Flaw fnF
  show (match Blaw [.val (.scr ns), .no, .no, .no, .no, .no, .no, .no, .no, .no, .no, .no, .no, .no, .no, .no, .no, .no, .no] with | .ok (.rt r) π' => Out.ok r (backA [.val (.scr ns)] π') | .ok .nx π' => .ok (.val .non) (backA [.val (.scr ns)] π') | .ok _ _ => .bad | .exc C ps π' => .exc C ps (backA [.val (.scr ns)] π') | .bad => .bad) = _
  rw [h]
end PV

set_option maxHeartbeats 4000000
namespace PV
open PySem PySem.Spec L2 PyProof.Rows
theorem all_mk {w : World} {K : PySem.W.Frag} {h : Heap} {mg : Str → Option Value} {fa : Addr} (hp : ∀ ns : List Int, ns.length ≤ 63 → ∃ πs, Flaw [.val (.scr ns)] = .ok (.val (.bl true)) πs) (X : K.In h) (G : h.Ns mainGlobals mg) (hfa : mg "law" = some (.ref fa))
    {C_HutsError : Addr}
    {C_BadNumber : Addr}
    {nm_BadNumber q_BadNumber : Str} {N_BadNumber : Addr} {bs_BadNumber bm_BadNumber sb_BadNumber : List Value} {sn_BadNumber : List Str} {ab_BadNumber : Bool} {col_BadNumber : Option Bool} {dd_BadNumber : Option Addr} {k0_BadNumber k1_BadNumber k2_BadNumber k3_BadNumber k5_BadNumber : Option Value}
    {fI_BadNumber cc_BadNumber cda_BadNumber : Addr} {oc_BadNumber kV_BadNumber dc_BadNumber pm_BadNumber ct_BadNumber : Value} {od_BadNumber an_BadNumber : Option Addr} {sl_BadNumber : Array (Option Value)}
    {cl_BadNumber ccl_BadNumber : Value} {cld_BadNumber cdd_BadNumber : Option Addr} {csl_BadNumber ccs_BadNumber : Array (Option Value)} {cvs_BadNumber : Array Value} {file_BadNumber : Str} {tf_BadNumber : Tok} {cd_BadNumber : ClassData}
    {lc0_BadNumber : Value} {ld0_BadNumber : Option Addr} {lcd_BadNumber : ClassData} {ls0_BadNumber : Array (Option Value)}
    {f_reduced : Addr} {od_reduced an_reduced : Option Addr} {sl_reduced : Array (Option Value)} {oc_reduced kV_reduced dc_reduced pm_reduced cd_reduced ct_reduced : Value}
    {f_times : Addr} {od_times an_times : Option Addr} {sl_times : Array (Option Value)} {oc_times kV_times dc_times pm_times cd_times ct_times : Value}
    {f_plus : Addr} {od_plus an_plus : Option Addr} {sl_plus : Array (Option Value)} {oc_plus kV_plus dc_plus pm_plus cd_plus ct_plus : Value}
    {f_is_less : Addr} {od_is_less an_is_less : Option Addr} {sl_is_less : Array (Option Value)} {oc_is_less kV_is_less dc_is_less pm_is_less cd_is_less ct_is_less : Value}
    {f_median : Addr} {od_median an_median : Option Addr} {sl_median : Array (Option Value)} {oc_median kV_median dc_median pm_median cd_median ct_median : Value}
    {f__law_alike : Addr} {od__law_alike an__law_alike : Option Addr} {sl__law_alike : Array (Option Value)} {oc__law_alike kV__law_alike dc__law_alike pm__law_alike cd__law_alike ct__law_alike : Value}
    {f_is_row : Addr} {od_is_row an_is_row : Option Addr} {sl_is_row : Array (Option Value)} {oc_is_row kV_is_row dc_is_row pm_is_row cd_is_row ct_is_row : Value}
    {f_is_whole : Addr} {od_is_whole an_is_whole : Option Addr} {sl_is_whole : Array (Option Value)} {oc_is_whole kV_is_whole dc_is_whole pm_is_whole cd_is_whole ct_is_whole : Value}
    {f_is_fraction : Addr} {od_is_fraction an_is_fraction : Option Addr} {sl_is_fraction : Array (Option Value)} {oc_is_fraction kV_is_fraction dc_is_fraction pm_is_fraction cd_is_fraction ct_is_fraction : Value}
    {f__law_low : Addr} {od__law_low an__law_low : Option Addr} {sl__law_low : Array (Option Value)} {oc__law_low kV__law_low dc__law_low pm__law_low cd__law_low ct__law_low : Value}
    {f_want_fraction : Addr} {od_want_fraction an_want_fraction : Option Addr} {sl_want_fraction : Array (Option Value)} {oc_want_fraction kV_want_fraction dc_want_fraction pm_want_fraction cd_want_fraction ct_want_fraction : Value}
    {f__law_taken : Addr} {od__law_taken an__law_taken : Option Addr} {sl__law_taken : Array (Option Value)} {oc__law_taken kV__law_taken dc__law_taken pm__law_taken cd__law_taken ct__law_taken : Value}
    {f__law_truth : Addr} {od__law_truth an__law_truth : Option Addr} {sl__law_truth : Array (Option Value)} {oc__law_truth kV__law_truth dc__law_truth pm__law_truth cd__law_truth ct__law_truth : Value}
    {f_total : Addr} {od_total an_total : Option Addr} {sl_total : Array (Option Value)} {oc_total kV_total dc_total pm_total cd_total ct_total : Value}
    {f_minus : Addr} {od_minus an_minus : Option Addr} {sl_minus : Array (Option Value)} {oc_minus kV_minus dc_minus pm_minus cd_minus ct_minus : Value}
    {f_floor_of : Addr} {od_floor_of an_floor_of : Option Addr} {sl_floor_of : Array (Option Value)} {oc_floor_of kV_floor_of dc_floor_of pm_floor_of cd_floor_of ct_floor_of : Value}
    {f_ceiling_of : Addr} {od_ceiling_of an_ceiling_of : Option Addr} {sl_ceiling_of : Array (Option Value)} {oc_ceiling_of kV_ceiling_of dc_ceiling_of pm_ceiling_of cd_ceiling_of ct_ceiling_of : Value}
    {f_nearest : Addr} {od_nearest an_nearest : Option Addr} {sl_nearest : Array (Option Value)} {oc_nearest kV_nearest dc_nearest pm_nearest cd_nearest ct_nearest : Value}
    {f_over : Addr} {od_over an_over : Option Addr} {sl_over : Array (Option Value)} {oc_over kV_over dc_over pm_over cd_over ct_over : Value}
    {f_law : Addr} {od_law an_law : Option Addr} {sl_law : Array (Option Value)} {oc_law kV_law dc_law pm_law cd_law ct_law : Value}
    (z_abs : PySem.W.nsIn K mainGlobals "abs" = some none)
    (z_bool_ : PySem.W.nsIn K mainGlobals "bool" = some none)
    (z_int_ : PySem.W.nsIn K mainGlobals "int" = some none)
    (z_isinstance : PySem.W.nsIn K mainGlobals "isinstance" = some none)
    (z_len : PySem.W.nsIn K mainGlobals "len" = some none)
    (z_list : PySem.W.nsIn K mainGlobals "list" = some none)
    (z_max : PySem.W.nsIn K mainGlobals "max" = some none)
    (z_min : PySem.W.nsIn K mainGlobals "min" = some none)
    (z_range : PySem.W.nsIn K mainGlobals "range" = some none)
    (z_repr : PySem.W.nsIn K mainGlobals "repr" = some none)
    (z_str_ : PySem.W.nsIn K mainGlobals "str" = some none)
    (z_super : PySem.W.nsIn K mainGlobals "super" = some none)
    (z_tuple : PySem.W.nsIn K mainGlobals "tuple" = some none)
    (a_HutsError : PySem.W.nsIn K mainGlobals "HutsError" = some (some (.ref C_HutsError)))
    (a_BadNumber : PySem.W.nsIn K mainGlobals "BadNumber" = some (some (.ref C_BadNumber)))
    (anyT : PySem.W.nsIn K cStatics "thirdparty.any" = some none)
    (l_BadNumber : K.lookup C_BadNumber = some (excClassObj nm_BadNumber q_BadNumber C_BadNumber N_BadNumber bs_BadNumber bm_BadNumber true sn_BadNumber sb_BadNumber ab_BadNumber col_BadNumber dd_BadNumber k0_BadNumber k1_BadNumber k2_BadNumber k3_BadNumber k5_BadNumber "ValueError.__new__"))
    (v_BadNumber : PySem.HandSPX.refsVE bm_BadNumber = true)
    (s_BadNumber : PySem.W.findIn K (.ref C_BadNumber) "__setattr__" = some (some (.builtin "object.__setattr__")))
    (e_BadNumber : PySem.W.subIn K (.ref C_BadNumber) (.type "BaseException") = some true)
    (t_BadNumber : PySem.W.typeIn K (.ref C_BadNumber) = some (.type "type"))
    (k_BadNumber : PySem.W.keepIn K (.ref C_BadNumber) = true)
    (i_BadNumber : PySem.W.findIn K (.ref C_BadNumber) "__init__" = some (some (.ref fI_BadNumber)))
    (it_BadNumber : PySem.W.typeIn K (.ref fI_BadNumber) = some (.type "function"))
    (il_BadNumber : K.lookup fI_BadNumber = some ⟨oc_BadNumber, od_BadNumber, .func (PySem.W.fnX "__init__" "BadNumber.__init__" (defArgs (inClass (top 2) 0)) (defBody (inClass (top 2) 0)) (defScope (inClass (top 2) 0)) [("__class__", cc_BadNumber)] .none kV_BadNumber dc_BadNumber pm_BadNumber an_BadNumber (.ref cda_BadNumber) ct_BadNumber), sl_BadNumber⟩)
    (ic_BadNumber : PySem.W.codeIn K (.ref cda_BadNumber) "BadNumber.__init__" = true)
    (cc_BadNumber' : K.lookup cc_BadNumber = some ⟨cl_BadNumber, cld_BadNumber, .cell (some (.ref C_BadNumber)), csl_BadNumber⟩)
    (co_BadNumber : K.lookup cda_BadNumber = some ⟨ccl_BadNumber, cdd_BadNumber, .fields cvs_BadNumber, ccs_BadNumber⟩)
    (cv_BadNumber : cvs_BadNumber[2]? = some (.str file_BadNumber tf_BadNumber))
    (cf_BadNumber : (PySem.Challenge.pw_huttohut_k10_whole_fractions.main.file == file_BadNumber) = true)
    (cd_BadNumber' : PySem.W.clsIn K C_BadNumber = some cd_BadNumber)
    (m_BadNumber : PySem.W.mroIn K C_BadNumber (.ref C_BadNumber) = some true)
    (lb_BadNumber : K.lookup C_HutsError = some ⟨lc0_BadNumber, ld0_BadNumber, .cls lcd_BadNumber, ls0_BadNumber⟩)
    (fi_BadNumber : PySem.W.findIn K (.ref C_HutsError) "__init__" = some (some (.builtin "ValueError.__init__")))
    (mr_BadNumber : (cd_BadNumber.mro.dropWhile (· != .ref C_BadNumber)).drop 1 = lcd_BadNumber.mro)
    (b_BadNumber : PySem.W.subIn K (.ref C_BadNumber) (.type "ValueError") = some true)
    (n_BadNumber_value : PySem.W.findIn K (.ref C_BadNumber) "value" = some none)
    (x1_BadNumber : PySem.W.findIn K (.ref C_BadNumber) "__getattribute__" = some (some (.builtin "BaseException.__getattribute__")))
    (x2_BadNumber : PySem.W.findIn K (.ref C_BadNumber) "__getattr__" = some none)
    (x4_BadNumber : PySem.W.hasDictIn K C_BadNumber = true)
    (h_HutsError_BadNumber : PySem.W.subIn K (.ref C_HutsError) (.ref C_BadNumber) = some false)
    (h_BadNumber_BadNumber : PySem.W.subIn K (.ref C_BadNumber) (.ref C_BadNumber) = some true)
    (a_reduced : PySem.W.nsIn K mainGlobals "reduced" = some (some (.ref f_reduced)))
    (l_reduced : K.lookup f_reduced = some ⟨oc_reduced, od_reduced, .func (PySem.W.fnOf "reduced" "reduced" (defArgs (top 7)) (defBody (top 7)) (defScope (top 7)) .none kV_reduced dc_reduced pm_reduced an_reduced cd_reduced ct_reduced), sl_reduced⟩)
    (c_reduced : PySem.W.codeIn K cd_reduced "reduced" = true)
    (k_reduced : PySem.W.keepIn K (.ref f_reduced) = true)
    (a_times : PySem.W.nsIn K mainGlobals "times" = some (some (.ref f_times)))
    (l_times : K.lookup f_times = some ⟨oc_times, od_times, .func (PySem.W.fnOf "times" "times" (defArgs (top 12)) (defBody (top 12)) (defScope (top 12)) .none kV_times dc_times pm_times an_times cd_times ct_times), sl_times⟩)
    (c_times : PySem.W.codeIn K cd_times "times" = true)
    (k_times : PySem.W.keepIn K (.ref f_times) = true)
    (a_plus : PySem.W.nsIn K mainGlobals "plus" = some (some (.ref f_plus)))
    (l_plus : K.lookup f_plus = some ⟨oc_plus, od_plus, .func (PySem.W.fnOf "plus" "plus" (defArgs (top 10)) (defBody (top 10)) (defScope (top 10)) .none kV_plus dc_plus pm_plus an_plus cd_plus ct_plus), sl_plus⟩)
    (c_plus : PySem.W.codeIn K cd_plus "plus" = true)
    (k_plus : PySem.W.keepIn K (.ref f_plus) = true)
    (a_is_less : PySem.W.nsIn K mainGlobals "is_less" = some (some (.ref f_is_less)))
    (l_is_less : K.lookup f_is_less = some ⟨oc_is_less, od_is_less, .func (PySem.W.fnOf "is_less" "is_less" (defArgs (top 14)) (defBody (top 14)) (defScope (top 14)) .none kV_is_less dc_is_less pm_is_less an_is_less cd_is_less ct_is_less), sl_is_less⟩)
    (c_is_less : PySem.W.codeIn K cd_is_less "is_less" = true)
    (k_is_less : PySem.W.keepIn K (.ref f_is_less) = true)
    (a_median : PySem.W.nsIn K mainGlobals "median" = some (some (.ref f_median)))
    (l_median : K.lookup f_median = some ⟨oc_median, od_median, .func (PySem.W.fnOf "median" "median" (defArgs (top 19)) (defBody (top 19)) (defScope (top 19)) .none kV_median dc_median pm_median an_median cd_median ct_median), sl_median⟩)
    (c_median : PySem.W.codeIn K cd_median "median" = true)
    (k_median : PySem.W.keepIn K (.ref f_median) = true)
    (a__law_alike : PySem.W.nsIn K mainGlobals "_law_alike" = some (some (.ref f__law_alike)))
    (l__law_alike : K.lookup f__law_alike = some ⟨oc__law_alike, od__law_alike, .func (PySem.W.fnOf "_law_alike" "_law_alike" (defArgs (top 22)) (defBody (top 22)) (defScope (top 22)) .none kV__law_alike dc__law_alike pm__law_alike an__law_alike cd__law_alike ct__law_alike), sl__law_alike⟩)
    (c__law_alike : PySem.W.codeIn K cd__law_alike "_law_alike" = true)
    (k__law_alike : PySem.W.keepIn K (.ref f__law_alike) = true)
    (a_is_row : PySem.W.nsIn K mainGlobals "is_row" = some (some (.ref f_is_row)))
    (l_is_row : K.lookup f_is_row = some ⟨oc_is_row, od_is_row, .func (PySem.W.fnOf "is_row" "is_row" (defArgs (top 5)) (defBody (top 5)) (defScope (top 5)) .none kV_is_row dc_is_row pm_is_row an_is_row cd_is_row ct_is_row), sl_is_row⟩)
    (c_is_row : PySem.W.codeIn K cd_is_row "is_row" = true)
    (k_is_row : PySem.W.keepIn K (.ref f_is_row) = true)
    (a_is_whole : PySem.W.nsIn K mainGlobals "is_whole" = some (some (.ref f_is_whole)))
    (l_is_whole : K.lookup f_is_whole = some ⟨oc_is_whole, od_is_whole, .func (PySem.W.fnOf "is_whole" "is_whole" (defArgs (top 4)) (defBody (top 4)) (defScope (top 4)) .none kV_is_whole dc_is_whole pm_is_whole an_is_whole cd_is_whole ct_is_whole), sl_is_whole⟩)
    (c_is_whole : PySem.W.codeIn K cd_is_whole "is_whole" = true)
    (k_is_whole : PySem.W.keepIn K (.ref f_is_whole) = true)
    (a_is_fraction : PySem.W.nsIn K mainGlobals "is_fraction" = some (some (.ref f_is_fraction)))
    (l_is_fraction : K.lookup f_is_fraction = some ⟨oc_is_fraction, od_is_fraction, .func (PySem.W.fnOf "is_fraction" "is_fraction" (defArgs (top 8)) (defBody (top 8)) (defScope (top 8)) .none kV_is_fraction dc_is_fraction pm_is_fraction an_is_fraction cd_is_fraction ct_is_fraction), sl_is_fraction⟩)
    (c_is_fraction : PySem.W.codeIn K cd_is_fraction "is_fraction" = true)
    (k_is_fraction : PySem.W.keepIn K (.ref f_is_fraction) = true)
    (a__law_low : PySem.W.nsIn K mainGlobals "_law_low" = some (some (.ref f__law_low)))
    (l__law_low : K.lookup f__law_low = some ⟨oc__law_low, od__law_low, .func (PySem.W.fnOf "_law_low" "_law_low" (defArgs (top 24)) (defBody (top 24)) (defScope (top 24)) .none kV__law_low dc__law_low pm__law_low an__law_low cd__law_low ct__law_low), sl__law_low⟩)
    (c__law_low : PySem.W.codeIn K cd__law_low "_law_low" = true)
    (k__law_low : PySem.W.keepIn K (.ref f__law_low) = true)
    (a_want_fraction : PySem.W.nsIn K mainGlobals "want_fraction" = some (some (.ref f_want_fraction)))
    (l_want_fraction : K.lookup f_want_fraction = some ⟨oc_want_fraction, od_want_fraction, .func (PySem.W.fnOf "want_fraction" "want_fraction" (defArgs (top 9)) (defBody (top 9)) (defScope (top 9)) .none kV_want_fraction dc_want_fraction pm_want_fraction an_want_fraction cd_want_fraction ct_want_fraction), sl_want_fraction⟩)
    (c_want_fraction : PySem.W.codeIn K cd_want_fraction "want_fraction" = true)
    (k_want_fraction : PySem.W.keepIn K (.ref f_want_fraction) = true)
    (a__law_taken : PySem.W.nsIn K mainGlobals "_law_taken" = some (some (.ref f__law_taken)))
    (l__law_taken : K.lookup f__law_taken = some ⟨oc__law_taken, od__law_taken, .func (PySem.W.fnOf "_law_taken" "_law_taken" (defArgs (top 21)) (defBody (top 21)) (defScope (top 21)) .none kV__law_taken dc__law_taken pm__law_taken an__law_taken cd__law_taken ct__law_taken), sl__law_taken⟩)
    (c__law_taken : PySem.W.codeIn K cd__law_taken "_law_taken" = true)
    (k__law_taken : PySem.W.keepIn K (.ref f__law_taken) = true)
    (a__law_truth : PySem.W.nsIn K mainGlobals "_law_truth" = some (some (.ref f__law_truth)))
    (l__law_truth : K.lookup f__law_truth = some ⟨oc__law_truth, od__law_truth, .func (PySem.W.fnOf "_law_truth" "_law_truth" (defArgs (top 23)) (defBody (top 23)) (defScope (top 23)) .none kV__law_truth dc__law_truth pm__law_truth an__law_truth cd__law_truth ct__law_truth), sl__law_truth⟩)
    (c__law_truth : PySem.W.codeIn K cd__law_truth "_law_truth" = true)
    (k__law_truth : PySem.W.keepIn K (.ref f__law_truth) = true)
    (a_total : PySem.W.nsIn K mainGlobals "total" = some (some (.ref f_total)))
    (l_total : K.lookup f_total = some ⟨oc_total, od_total, .func (PySem.W.fnOf "total" "total" (defArgs (top 18)) (defBody (top 18)) (defScope (top 18)) .none kV_total dc_total pm_total an_total cd_total ct_total), sl_total⟩)
    (c_total : PySem.W.codeIn K cd_total "total" = true)
    (k_total : PySem.W.keepIn K (.ref f_total) = true)
    (a_minus : PySem.W.nsIn K mainGlobals "minus" = some (some (.ref f_minus)))
    (l_minus : K.lookup f_minus = some ⟨oc_minus, od_minus, .func (PySem.W.fnOf "minus" "minus" (defArgs (top 11)) (defBody (top 11)) (defScope (top 11)) .none kV_minus dc_minus pm_minus an_minus cd_minus ct_minus), sl_minus⟩)
    (c_minus : PySem.W.codeIn K cd_minus "minus" = true)
    (k_minus : PySem.W.keepIn K (.ref f_minus) = true)
    (a_floor_of : PySem.W.nsIn K mainGlobals "floor_of" = some (some (.ref f_floor_of)))
    (l_floor_of : K.lookup f_floor_of = some ⟨oc_floor_of, od_floor_of, .func (PySem.W.fnOf "floor_of" "floor_of" (defArgs (top 15)) (defBody (top 15)) (defScope (top 15)) .none kV_floor_of dc_floor_of pm_floor_of an_floor_of cd_floor_of ct_floor_of), sl_floor_of⟩)
    (c_floor_of : PySem.W.codeIn K cd_floor_of "floor_of" = true)
    (k_floor_of : PySem.W.keepIn K (.ref f_floor_of) = true)
    (a_ceiling_of : PySem.W.nsIn K mainGlobals "ceiling_of" = some (some (.ref f_ceiling_of)))
    (l_ceiling_of : K.lookup f_ceiling_of = some ⟨oc_ceiling_of, od_ceiling_of, .func (PySem.W.fnOf "ceiling_of" "ceiling_of" (defArgs (top 16)) (defBody (top 16)) (defScope (top 16)) .none kV_ceiling_of dc_ceiling_of pm_ceiling_of an_ceiling_of cd_ceiling_of ct_ceiling_of), sl_ceiling_of⟩)
    (c_ceiling_of : PySem.W.codeIn K cd_ceiling_of "ceiling_of" = true)
    (k_ceiling_of : PySem.W.keepIn K (.ref f_ceiling_of) = true)
    (a_nearest : PySem.W.nsIn K mainGlobals "nearest" = some (some (.ref f_nearest)))
    (l_nearest : K.lookup f_nearest = some ⟨oc_nearest, od_nearest, .func (PySem.W.fnOf "nearest" "nearest" (defArgs (top 17)) (defBody (top 17)) (defScope (top 17)) .none kV_nearest dc_nearest pm_nearest an_nearest cd_nearest ct_nearest), sl_nearest⟩)
    (c_nearest : PySem.W.codeIn K cd_nearest "nearest" = true)
    (k_nearest : PySem.W.keepIn K (.ref f_nearest) = true)
    (a_over : PySem.W.nsIn K mainGlobals "over" = some (some (.ref f_over)))
    (l_over : K.lookup f_over = some ⟨oc_over, od_over, .func (PySem.W.fnOf "over" "over" (defArgs (top 13)) (defBody (top 13)) (defScope (top 13)) .none kV_over dc_over pm_over an_over cd_over ct_over), sl_over⟩)
    (c_over : PySem.W.codeIn K cd_over "over" = true)
    (k_over : PySem.W.keepIn K (.ref f_over) = true)
    (a_law : PySem.W.nsIn K mainGlobals "law" = some (some (.ref f_law)))
    (l_law : K.lookup f_law = some ⟨oc_law, od_law, .func (PySem.W.fnOf "law" "law" (defArgs (top 25)) (defBody (top 25)) (defScope (top 25)) .none kV_law dc_law pm_law an_law cd_law ct_law), sl_law⟩)
    (c_law : PySem.W.codeIn K cd_law "law" = true)
    (k_law : PySem.W.keepIn K (.ref f_law) = true) :
    ∃ fd : FuncData, (∀ (s : Shared) (v : Value), BindsTo s fd ⟨[v], []⟩ [("script", v)]) ∧ ∀ base : Heap, K.In base → base.Ns mainGlobals mg → FnG PySem.Challenge.pw_huttohut_k10_whole_fractions w K mg base 6 fa fd ["script"] (spLaw K) := by
  have e := hfa.symm.trans (PySem.W.mg_of X G a_law)
  cases e
  have T : Txt K mg (clsOf [C_HutsError, C_BadNumber]) := ⟨PySem.W.mg_none_of X G z_abs,
    PySem.W.mg_none_of X G z_bool_,
    PySem.W.mg_none_of X G z_int_,
    PySem.W.mg_none_of X G z_isinstance,
    PySem.W.mg_none_of X G z_len,
    PySem.W.mg_none_of X G z_list,
    PySem.W.mg_none_of X G z_max,
    PySem.W.mg_none_of X G z_min,
    PySem.W.mg_none_of X G z_range,
    PySem.W.mg_none_of X G z_repr,
    PySem.W.mg_none_of X G z_str_,
    PySem.W.mg_none_of X G z_tuple,
    PySem.W.mg_of X G a_BadNumber,
    ⟨x1_BadNumber, x2_BadNumber, e_BadNumber, x4_BadNumber⟩,
    n_BadNumber_value,
    fun C hC => by
    have z : C = 0 ∨ C = 1 := by omega
    rcases z with rfl | rfl
    · exact PySem.W.exm_ref e_BadNumber x4_BadNumber t_BadNumber h_HutsError_BadNumber
    · exact PySem.W.exm_ref e_BadNumber x4_BadNumber t_BadNumber h_BadNumber_BadNumber⟩
  have A_reduced : At K mg "reduced" (top 7) ["top", "bottom"] := at_mk X G a_reduced l_reduced c_reduced k_reduced fun _ _ _ _ _ _ us hl => match us, hl with | [_, _], _ => rfl
  have A_times : At K mg "times" (top 12) ["one", "other"] := at_mk X G a_times l_times c_times k_times fun _ _ _ _ _ _ us hl => match us, hl with | [_, _], _ => rfl
  have A_plus : At K mg "plus" (top 10) ["one", "other"] := at_mk X G a_plus l_plus c_plus k_plus fun _ _ _ _ _ _ us hl => match us, hl with | [_, _], _ => rfl
  have A_is_less : At K mg "is_less" (top 14) ["one", "other"] := at_mk X G a_is_less l_is_less c_is_less k_is_less fun _ _ _ _ _ _ us hl => match us, hl with | [_, _], _ => rfl
  have A_median : At K mg "median" (top 19) ["rows"] := at_mk X G a_median l_median c_median k_median fun _ _ _ _ _ _ us hl => match us, hl with | [_], _ => rfl
  have A__law_alike : At K mg "_law_alike" (top 22) ["found", "due"] := at_mk X G a__law_alike l__law_alike c__law_alike k__law_alike fun _ _ _ _ _ _ us hl => match us, hl with | [_, _], _ => rfl
  have A_is_row : At K mg "is_row" (top 5) ["value"] := at_mk X G a_is_row l_is_row c_is_row k_is_row fun _ _ _ _ _ _ us hl => match us, hl with | [_], _ => rfl
  have A_is_whole : At K mg "is_whole" (top 4) ["value"] := at_mk X G a_is_whole l_is_whole c_is_whole k_is_whole fun _ _ _ _ _ _ us hl => match us, hl with | [_], _ => rfl
  have A_is_fraction : At K mg "is_fraction" (top 8) ["value"] := at_mk X G a_is_fraction l_is_fraction c_is_fraction k_is_fraction fun _ _ _ _ _ _ us hl => match us, hl with | [_], _ => rfl
  have A__law_low : At K mg "_law_low" (top 24) ["top", "bottom"] := at_mk X G a__law_low l__law_low c__law_low k__law_low fun _ _ _ _ _ _ us hl => match us, hl with | [_, _], _ => rfl
  have A_want_fraction : At K mg "want_fraction" (top 9) ["value"] := at_mk X G a_want_fraction l_want_fraction c_want_fraction k_want_fraction fun _ _ _ _ _ _ us hl => match us, hl with | [_], _ => rfl
  have A__law_taken : At K mg "_law_taken" (top 21) ["row", "many"] := at_mk X G a__law_taken l__law_taken c__law_taken k__law_taken fun _ _ _ _ _ _ us hl => match us, hl with | [_, _], _ => rfl
  have A__law_truth : At K mg "_law_truth" (top 23) ["found", "due"] := at_mk X G a__law_truth l__law_truth c__law_truth k__law_truth fun _ _ _ _ _ _ us hl => match us, hl with | [_, _], _ => rfl
  have A_total : At K mg "total" (top 18) ["rows"] := at_mk X G a_total l_total c_total k_total fun _ _ _ _ _ _ us hl => match us, hl with | [_], _ => rfl
  have A_minus : At K mg "minus" (top 11) ["one", "other"] := at_mk X G a_minus l_minus c_minus k_minus fun _ _ _ _ _ _ us hl => match us, hl with | [_, _], _ => rfl
  have A_floor_of : At K mg "floor_of" (top 15) ["one"] := at_mk X G a_floor_of l_floor_of c_floor_of k_floor_of fun _ _ _ _ _ _ us hl => match us, hl with | [_], _ => rfl
  have A_ceiling_of : At K mg "ceiling_of" (top 16) ["one"] := at_mk X G a_ceiling_of l_ceiling_of c_ceiling_of k_ceiling_of fun _ _ _ _ _ _ us hl => match us, hl with | [_], _ => rfl
  have A_nearest : At K mg "nearest" (top 17) ["one"] := at_mk X G a_nearest l_nearest c_nearest k_nearest fun _ _ _ _ _ _ us hl => match us, hl with | [_], _ => rfl
  have A_over : At K mg "over" (top 13) ["one", "other"] := at_mk X G a_over l_over c_over k_over fun _ _ _ _ _ _ us hl => match us, hl with | [_, _], _ => rfl
  have F_law := fun_mk (st := top 25) l_law c_law k_law
  refine ⟨PySem.W.fnOf "law" "law" (defArgs (top 25)) (defBody (top 25)) (defScope (top 25)) .none kV_law dc_law pm_law an_law cd_law ct_law, fun s v => .of_eq rfl, fun base KB GB => law_by (c := cx K (clsOf [C_HutsError, C_BadNumber])) rfl ?_ hp⟩
  have I_BadNumber := init1_ok (CX := L2.CX PySem.Challenge.pw_huttohut_k10_whole_fractions w) (P := PySem.Challenge.pw_huttohut_k10_whole_fractions) (w := w) (mg := mg) (base := base) (k := 0) (C := C_BadNumber) (D := C_BadNumber) il_BadNumber ic_BadNumber (NdefX.nscope_by (by decide +kernel)) ⟨⟨_, _, _, _, _, _, co_BadNumber, cv_BadNumber, cf_BadNumber⟩, ⟨_, _, _, cc_BadNumber'⟩, ⟨_, cd_BadNumber'⟩, rfl, anyT⟩ (PySem.W.mg_none_of X G z_super) rfl rfl rfl (by decide) (by decide) rfl rfl (fun env => ⟨_, rfl⟩) ⟨⟨⟨_, _, _, _, _, _, _, _, _, _, _, _, _, _, _, l_BadNumber, v_BadNumber⟩, s_BadNumber, e_BadNumber, t_BadNumber, k_BadNumber⟩, m_BadNumber, sup_mk cd_BadNumber' lb_BadNumber mr_BadNumber fi_BadNumber, b_BadNumber⟩ n_BadNumber_value
  have E_BadNumber : ExK PySem.Challenge.pw_huttohut_k10_whole_fractions w K mg base (cx K (clsOf [C_HutsError, C_BadNumber])) 1 1 1 "BadNumber" ["self", "value"] := ⟨⟨⟨_, _, _, _, _, _, _, _, _, _, _, _, _, _, _, l_BadNumber, v_BadNumber⟩, s_BadNumber, e_BadNumber, t_BadNumber, k_BadNumber⟩, ⟨_, _, i_BadNumber, it_BadNumber, I_BadNumber, .all fun us hl => match us, hl with | [_, _], _ => rfl⟩, PySem.W.mg_of X G a_BadNumber⟩
  have O_reduced := okreduced (p := PySem.Challenge.pw_huttohut_k10_whole_fractions) (w := w) (base := base) T A_reduced
  have O_times := oktimes (p := PySem.Challenge.pw_huttohut_k10_whole_fractions) (w := w) (base := base) T A_times O_reduced
  have O_plus := okplus (p := PySem.Challenge.pw_huttohut_k10_whole_fractions) (w := w) (base := base) T A_plus O_reduced
  have O_is_less := okis_less (p := PySem.Challenge.pw_huttohut_k10_whole_fractions) (w := w) (base := base) T A_is_less
  have O_median := okmedian (p := PySem.Challenge.pw_huttohut_k10_whole_fractions) (w := w) (base := base) T A_median O_is_less O_plus O_times
  have O__law_alike := ok_law_alike (p := PySem.Challenge.pw_huttohut_k10_whole_fractions) (w := w) (base := base) T A__law_alike 5
  have O_is_row := okis_row (p := PySem.Challenge.pw_huttohut_k10_whole_fractions) (w := w) (base := base) T A_is_row
  have O_is_whole := okis_whole (p := PySem.Challenge.pw_huttohut_k10_whole_fractions) (w := w) (base := base) T A_is_whole
  have O_is_fraction := okis_fraction (p := PySem.Challenge.pw_huttohut_k10_whole_fractions) (w := w) (base := base) T A_is_fraction O_is_row O_is_whole O_reduced
  have O__law_low := ok_law_low (p := PySem.Challenge.pw_huttohut_k10_whole_fractions) (w := w) (base := base) T A__law_low
  have O_want_fraction := okwant_fraction (p := PySem.Challenge.pw_huttohut_k10_whole_fractions) (w := w) (base := base) T A_want_fraction O_is_fraction E_BadNumber
  have O__law_taken := ok_law_taken (p := PySem.Challenge.pw_huttohut_k10_whole_fractions) (w := w) (base := base) T A__law_taken
  have O__law_truth := ok_law_truth (p := PySem.Challenge.pw_huttohut_k10_whole_fractions) (w := w) (base := base) T A__law_truth
  have O_total := oktotal (p := PySem.Challenge.pw_huttohut_k10_whole_fractions) (w := w) (base := base) T A_total O_plus
  have O_minus := okminus (p := PySem.Challenge.pw_huttohut_k10_whole_fractions) (w := w) (base := base) T A_minus O_reduced
  have O_floor_of := okfloor_of (p := PySem.Challenge.pw_huttohut_k10_whole_fractions) (w := w) (base := base) T A_floor_of
  have O_ceiling_of := okceiling_of (p := PySem.Challenge.pw_huttohut_k10_whole_fractions) (w := w) (base := base) T A_ceiling_of
  have O_nearest := oknearest (p := PySem.Challenge.pw_huttohut_k10_whole_fractions) (w := w) (base := base) T A_nearest
  have O_over := okover (p := PySem.Challenge.pw_huttohut_k10_whole_fractions) (w := w) (base := base) T A_over O_reduced
  exact oklaw T F_law O__law_taken O_reduced O__law_low O__law_alike O_is_fraction O_plus O_minus O_times O_over O_is_less O__law_truth O_floor_of O_ceiling_of O_nearest O_total O_median O_want_fraction
theorem walk {l : PySem.W.OpenLaw} {q : Program} {loose : List Str} {XP : (Str → Option Value) → Heap → Prop} {YP : World → Heap → Prop} {d : DefRec} {K : Params → PySem.W.Frag} (hn : l.most = some 63) (hdf : d.params.defaults = []) (hl : l.prog = PySem.Challenge.pw_huttohut_k10_whole_fractions)
    (hY : ∀ (w : World) (h : Heap), YP w h → (K w.params).In h)
    (F : ∀ (w : World) (mg : Str → Option Value) (fa : Addr) (h : Heap), (K w.params).In h → h.Ns mainGlobals mg → mg d.name = some (.ref fa) →
      ∃ fd : FuncData, (∀ (s : Shared) (u : Value), BindsTo s fd ⟨[u], []⟩ [("script", u)]) ∧ ∀ base : Heap, (K w.params).In base → base.Ns mainGlobals mg → FnG PySem.Challenge.pw_huttohut_k10_whole_fractions w (K w.params) mg base 6 fa fd ["script"] (spLaw (K w.params))) :
    PySem.W.WalkO q loose XP YP l.row.toRowW d [] (fun f vs => PySem.call f vs) :=
  walk_ofG (n := 63) (k := 6) (x := "script") (sp := fun w => spLaw (K w.params)) hn (by decide) hdf ⟨rfl, by decide, by decide⟩ hY (by rw [hl]; exact F) (fun _ _ a ns hl _ hS => ⟨a, ns, rfl, hS, hl, fun _ => rfl⟩)
end PV

open PySem PySem.W PyProof.Rows
set_option maxRecDepth 100000 in
set_option maxHeartbeats 0 in
theorem PySem.Challenge.cw_huttohut_k10_whole_fractions_holds : PySem.Challenge.rw_huttohut_k10_whole_fractions.Holds := by
  w_on; o_law; k_head; (case hw => w_witness2)
  k_fill
  refine PV.walk (l := PySem.Challenge.rw_huttohut_k10_whole_fractions) rfl rfl rfl (fun w h Y => PySem.W.kIn_of Y) ?F
  case F =>
    intro w mg fa h KX G hmg
    refine' PV.all_mk PV.plain KX G hmg ?z_abs ?z_bool_ ?z_int_ ?z_isinstance ?z_len ?z_list ?z_max ?z_min ?z_range ?z_repr ?z_str_ ?z_super ?z_tuple ?a_HutsError ?a_BadNumber ?anyT ?l_BadNumber ?v_BadNumber ?s_BadNumber ?e_BadNumber ?t_BadNumber ?k_BadNumber ?i_BadNumber ?it_BadNumber ?il_BadNumber ?ic_BadNumber ?cc_BadNumber' ?co_BadNumber ?cv_BadNumber ?cf_BadNumber ?cd_BadNumber' ?m_BadNumber ?lb_BadNumber ?fi_BadNumber ?mr_BadNumber ?b_BadNumber ?n_BadNumber_value ?x1_BadNumber ?x2_BadNumber ?x4_BadNumber ?h_HutsError_BadNumber ?h_BadNumber_BadNumber ?a_reduced ?l_reduced ?c_reduced ?k_reduced ?a_times ?l_times ?c_times ?k_times ?a_plus ?l_plus ?c_plus ?k_plus ?a_is_less ?l_is_less ?c_is_less ?k_is_less ?a_median ?l_median ?c_median ?k_median ?a__law_alike ?l__law_alike ?c__law_alike ?k__law_alike ?a_is_row ?l_is_row ?c_is_row ?k_is_row ?a_is_whole ?l_is_whole ?c_is_whole ?k_is_whole ?a_is_fraction ?l_is_fraction ?c_is_fraction ?k_is_fraction ?a__law_low ?l__law_low ?c__law_low ?k__law_low ?a_want_fraction ?l_want_fraction ?c_want_fraction ?k_want_fraction ?a__law_taken ?l__law_taken ?c__law_taken ?k__law_taken ?a__law_truth ?l__law_truth ?c__law_truth ?k__law_truth ?a_total ?l_total ?c_total ?k_total ?a_minus ?l_minus ?c_minus ?k_minus ?a_floor_of ?l_floor_of ?c_floor_of ?k_floor_of ?a_ceiling_of ?l_ceiling_of ?c_ceiling_of ?k_ceiling_of ?a_nearest ?l_nearest ?c_nearest ?k_nearest ?a_over ?l_over ?c_over ?k_over ?a_law ?l_law ?c_law ?k_law
    (case z_abs => k_is)
    (case z_bool_ => k_is)
    (case z_int_ => k_is)
    (case z_isinstance => k_is)
    (case z_len => k_is)
    (case z_list => k_is)
    (case z_max => k_is)
    (case z_min => k_is)
    (case z_range => k_is)
    (case z_repr => k_is)
    (case z_str_ => k_is)
    (case z_super => k_is)
    (case z_tuple => k_is)
    (case a_HutsError => k_is)
    (case a_BadNumber => k_is)
    (case anyT => k_is)
    (case l_BadNumber => k_is)
    (case v_BadNumber => first | rfl | decide | decide +kernel)
    (case s_BadNumber => k_is)
    (case e_BadNumber => k_is)
    (case t_BadNumber => k_is)
    (case k_BadNumber => k_is)
    (case i_BadNumber => k_is)
    (case it_BadNumber => k_is)
    (case il_BadNumber => k_is)
    (case ic_BadNumber => k_is)
    (case cc_BadNumber' => k_is)
    (case co_BadNumber => k_is)
    (case cv_BadNumber => first | rfl | decide | decide +kernel)
    (case cf_BadNumber => first | rfl | decide | decide +kernel)
    (case cd_BadNumber' => k_is)
    (case m_BadNumber => k_is)
    (case lb_BadNumber => k_is)
    (case fi_BadNumber => k_is)
    (case mr_BadNumber => first | rfl | decide | decide +kernel)
    (case b_BadNumber => k_is)
    (case n_BadNumber_value => k_is)
    (case x1_BadNumber => k_is)
    (case x2_BadNumber => k_is)
    (case x4_BadNumber => k_is)
    (case h_HutsError_BadNumber => k_is)
    (case h_BadNumber_BadNumber => k_is)
    (case a_reduced => k_is)
    (case l_reduced => k_is)
    (case c_reduced => k_is)
    (case k_reduced => k_is)
    (case a_times => k_is)
    (case l_times => k_is)
    (case c_times => k_is)
    (case k_times => k_is)
    (case a_plus => k_is)
    (case l_plus => k_is)
    (case c_plus => k_is)
    (case k_plus => k_is)
    (case a_is_less => k_is)
    (case l_is_less => k_is)
    (case c_is_less => k_is)
    (case k_is_less => k_is)
    (case a_median => k_is)
    (case l_median => k_is)
    (case c_median => k_is)
    (case k_median => k_is)
    (case a__law_alike => k_is)
    (case l__law_alike => k_is)
    (case c__law_alike => k_is)
    (case k__law_alike => k_is)
    (case a_is_row => k_is)
    (case l_is_row => k_is)
    (case c_is_row => k_is)
    (case k_is_row => k_is)
    (case a_is_whole => k_is)
    (case l_is_whole => k_is)
    (case c_is_whole => k_is)
    (case k_is_whole => k_is)
    (case a_is_fraction => k_is)
    (case l_is_fraction => k_is)
    (case c_is_fraction => k_is)
    (case k_is_fraction => k_is)
    (case a__law_low => k_is)
    (case l__law_low => k_is)
    (case c__law_low => k_is)
    (case k__law_low => k_is)
    (case a_want_fraction => k_is)
    (case l_want_fraction => k_is)
    (case c_want_fraction => k_is)
    (case k_want_fraction => k_is)
    (case a__law_taken => k_is)
    (case l__law_taken => k_is)
    (case c__law_taken => k_is)
    (case k__law_taken => k_is)
    (case a__law_truth => k_is)
    (case l__law_truth => k_is)
    (case c__law_truth => k_is)
    (case k__law_truth => k_is)
    (case a_total => k_is)
    (case l_total => k_is)
    (case c_total => k_is)
    (case k_total => k_is)
    (case a_minus => k_is)
    (case l_minus => k_is)
    (case c_minus => k_is)
    (case k_minus => k_is)
    (case a_floor_of => k_is)
    (case l_floor_of => k_is)
    (case c_floor_of => k_is)
    (case k_floor_of => k_is)
    (case a_ceiling_of => k_is)
    (case l_ceiling_of => k_is)
    (case c_ceiling_of => k_is)
    (case k_ceiling_of => k_is)
    (case a_nearest => k_is)
    (case l_nearest => k_is)
    (case c_nearest => k_is)
    (case k_nearest => k_is)
    (case a_over => k_is)
    (case l_over => k_is)
    (case c_over => k_is)
    (case k_over => k_is)
    (case a_law => k_is)
    (case l_law => k_is)
    (case c_law => k_is)
    (case k_law => k_is)
