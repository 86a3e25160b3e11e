import PyProof.Rows.All
import Wide.All
import OpenK.AllK
import Wide.FinOn
import HandS.ForMost
import HandS.ForExc
import HandS.ExcInit
import HandS.ExcField
import HandS.ExcSuper
import HandS.TryMany
import HandS.CallSlots
import HandS.CallLocal
import HandS.Wide
import HandS.Flow
import HandS.IsInst
import HandS.Codes
import HandS.TupAny
import HandS.TupMul
import HandS.Deep
import HandS.Conv
import HandS.Style
import HandS.ExcOwn
import HandS.Nested
import KE.KExcSuper
import HandS.Ends
import HandS.ExcIs
import KE.GoesEnum
import HandS.Zip
import KE.SortData
import KE.DataMinMax
import KE.DataFind
import HandS.RaiseMore
import PySem.Challenge.RW_huttohut_k15_whole_turns
set_option Elab.async false
set_option linter.all false
set_option maxRecDepth 100000
/-! PV: values without addresses; slots that own what they may change; combinators over slots, and the rules that tie them to the judgements of the hand layer. -/
namespace PV
open PySem L2

/-- a value by itself: data, an object by its class's number, a def by its number -/
inductive P where
  | non | bl (b : Bool) | int (i : Int) | str (x : Str)
  | tup (xs : List P) | lst (xs : List P)
  | dct (t : Bool) (ks vs : List P)
  | obj (C : Nat) (vs : List P)
  | fn (f : Nat)
  | scr (ns : List Int)
  | ty (n : String) | cls (C : Nat)
  deriving Inhabited

/-- where the numbered classes and defs stand; the fields of a class in the order of their first store -/
structure Ctx where
  K : PySem.W.Frag
  cls : Nat → Addr
  lay : Nat → List Str
  fna : Nat → Addr

def keyP : Key → P
  | .inl i => .int i
  | .inr x => .str x
def tkeyP (k : List Key) : P := .tup (k.map keyP)

/-- H knows what F knows; a dict may be locked -/
def Le (F H : Hp) : Prop := ∀ a u, F a = some u → H a = some u ∨ ((∃ k, u = .dK k ∨ ∃ k, u = .dT k) ∧ ∃ ob, H a = some (.frz ob u))
theorem Le.refl (F : Hp) : Le F F := fun _ _ h => .inl h
theorem Le.trans {F G H : Hp} (a : Le F G) (b : Le G H) : Le F H := fun x u h => by
  rcases a x u h with h | ⟨hd, ob, h⟩
  · exact b x u h
  · rcases b x _ h with h | ⟨⟨k, h | ⟨k, h⟩⟩, _⟩
    · exact .inr ⟨hd, ob, h⟩
    · cases h
    · cases h
theorem Le.rd {F H : Hp} (l : Le F H) {a : Addr} {u : HO} (h : Rd F a u) : Rd H a u := by
  rcases h with h | ⟨o, h⟩
  · rcases l a u h with h | ⟨_, ob, h⟩
    · exact .inl h
    · exact .inr ⟨ob, h⟩
  · rcases l a _ h with h | ⟨⟨k, h | ⟨k, h⟩⟩, _⟩
    · exact .inr ⟨o, h⟩
    · cases h
    · cases h
theorem Le.sqL {K : PySem.W.Frag} {F H : Hp} (l : Le F H) {a : Addr} {xs : List V} (h : SqL K F a xs) : SqL K H a xs := by
  rcases h with h | h
  · exact .inl (l.rd h)
  · exact .inr h
theorem Le.sqT {K : PySem.W.Frag} {F H : Hp} (l : Le F H) {a : Addr} {xs : List V} (h : SqT K F a xs) : SqT K H a xs := by
  rcases h with h | h
  · exact .inl (l.rd h)
  · exact .inr h
theorem Le.ins {F H : Hp} (l : Le F H) {a C dx : Addr} {fs : List (Str × V)} (h : F a = some (.ins C dx fs)) : H a = some (.ins C dx fs) := by
  rcases l a _ h with h | ⟨⟨k, h | ⟨k, h⟩⟩, _⟩
  · exact h
  · cases h
  · cases h
theorem Le.lst {F H : Hp} (l : Le F H) {a : Addr} {xs : List V} (h : F a = some (.lst xs)) : H a = some (.lst xs) := by
  rcases l a _ h with h | ⟨⟨k, h | ⟨k, h⟩⟩, _⟩
  · exact h
  · cases h
  · cases h
theorem Le.xd {F H : Hp} (l : Le F H) {a : Addr} {fs : List (Str × V)} (h : F a = some (.xd fs)) : H a = some (.xd fs) := by
  rcases l a _ h with h | ⟨⟨k, h | ⟨k, h⟩⟩, _⟩
  · exact h
  · cases h
  · cases h
theorem Le.gone {F H : Hp} (l : Le F H) {a : Addr} (h : H a = Option.none) : F a = Option.none := by
  cases e : F a with
  | none => rfl
  | some u =>
    rcases l a u e with q | ⟨_, _, q⟩
    · rw [h] at q; cases q
    · rw [h] at q; cases q
theorem Le.upd {F H : Hp} (l : Le F H) (a : Addr) (o : HO) : Le (L2.upd F a o) (L2.upd H a o) := fun b u h => by
  by_cases e : b = a
  · subst e; rw [upd_same] at h ⊢; exact .inl h
  · rw [upd_ne e] at h ⊢; exact l b u h
theorem Le.updR {F H : Hp} (l : Le F H) {a : Addr} (o : HO) (h : F a = Option.none) : Le F (L2.upd H a o) := fun b u e => by
  by_cases q : b = a
  · subst q; rw [h] at e; cases e
  · rw [upd_ne q]; exact l b u e
theorem Le.new {F : Hp} {a : Addr} (o : HO) (h : F a = Option.none) : Le F (L2.upd F a o) := (Le.refl F).updR o h

/-! ### what value stands for what -/
mutual
def Rp (c : Ctx) (H : Hp) : P → V → Prop
  | .non, v => v = .non
  | .bl b, v => v = .bl b
  | .int i, v => v = .int i
  | .str x, v => v = .str x
  | .tup ps, v => ∃ a vs, v = .ref a ∧ SqT c.K H a vs ∧ Rps c H ps vs
  | .lst ps, v => ∃ a vs, v = .ref a ∧ H a = some (.lst vs) ∧ Rps c H ps vs
  | .scr ns, v => ∃ a, v = .ref a ∧ SqL c.K H a (ns.map V.int)
  | .dct t ks ws, v => ∃ a vs, v = .ref a ∧ Rps c H ws vs ∧
      (if t = true then ∃ kvs : List (List Key × V), Rd H a (.dT kvs) ∧ ks = kvs.map (fun q => tkeyP q.1) ∧ vs = kvs.map (·.2) ∧ (kvs.map (·.1)).Nodup
       else ∃ kvs : List (Key × V), Rd H a (.dK kvs) ∧ ks = kvs.map (fun q => keyP q.1) ∧ vs = kvs.map (·.2) ∧ (kvs.map (·.1)).Nodup)
  | .obj C ps, v => ∃ a dx vs, v = .ref a ∧ H a = some (.ins (c.cls C) dx ((c.lay C).zip vs)) ∧ Rps c H ps vs
  | .fn f, v => v = .ref (c.fna f)
  | .ty n, v => v = .ty n
  | .cls C, v => v = .ref (c.cls C)
def Rps (c : Ctx) (H : Hp) : List P → List V → Prop
  | [], vs => vs = []
  | p :: ps, vs => ∃ v r, vs = v :: r ∧ Rp c H p v ∧ Rps c H ps r
end
mutual
theorem Rp.mono {c : Ctx} {F H : Hp} (l : Le F H) : ∀ (p : P) (v : V), Rp c F p v → Rp c H p v
  | .non, _, h => by unfold Rp at h ⊢; exact h
  | .bl _, _, h => by unfold Rp at h ⊢; exact h
  | .int _, _, h => by unfold Rp at h ⊢; exact h
  | .str _, _, h => by unfold Rp at h ⊢; exact h
  | .fn _, _, h => by unfold Rp at h ⊢; exact h
  | .ty _, _, h => by unfold Rp at h ⊢; exact h
  | .cls _, _, h => by unfold Rp at h ⊢; exact h
  | .tup ps, _, h => by
    unfold Rp at h ⊢
    obtain ⟨a, vs, e, h1, h2⟩ := h
    exact ⟨a, vs, e, l.sqT h1, Rps.mono l ps vs h2⟩
  | .lst ps, _, h => by
    unfold Rp at h ⊢
    obtain ⟨a, vs, e, h1, h2⟩ := h
    exact ⟨a, vs, e, l.lst h1, Rps.mono l ps vs h2⟩
  | .scr ns, _, h => by
    unfold Rp at h ⊢
    obtain ⟨a, e, h1⟩ := h
    exact ⟨a, e, l.sqL h1⟩
  | .dct t ks ws, _, h => by
    unfold Rp at h ⊢
    obtain ⟨a, vs, e, h1, h2⟩ := h
    refine ⟨a, vs, e, Rps.mono l ws vs h1, ?_⟩
    cases t
    · obtain ⟨kvs, q⟩ := h2
      exact ⟨kvs, l.rd q.1, q.2⟩
    · obtain ⟨kvs, q⟩ := h2
      exact ⟨kvs, l.rd q.1, q.2⟩
  | .obj C ps, _, h => by
    unfold Rp at h ⊢
    obtain ⟨a, dx, vs, e, h1, h2⟩ := h
    exact ⟨a, dx, vs, e, l.ins h1, Rps.mono l ps vs h2⟩
theorem Rps.mono {c : Ctx} {F H : Hp} (l : Le F H) : ∀ (ps : List P) (vs : List V), Rps c F ps vs → Rps c H ps vs
  | [], _, h => by unfold Rps at h ⊢; exact h
  | p :: ps, _, h => by
    unfold Rps at h ⊢
    obtain ⟨v, r, e, h1, h2⟩ := h
    exact ⟨v, r, e, Rp.mono l p v h1, Rps.mono l ps r h2⟩
end
section
variable {c : Ctx} {F H : Hp} {p q : P} {ps qs : List P} {v : V} {vs ws : List V}
theorem rps_nil : Rps c H [] [] := by unfold Rps; rfl
theorem rps_cons (h : Rp c H p v) (t : Rps c H ps vs) : Rps c H (p :: ps) (v :: vs) := by unfold Rps; exact ⟨v, vs, rfl, h, t⟩
theorem rps_inv (h : Rps c H (p :: ps) vs) : ∃ v r, vs = v :: r ∧ Rp c H p v ∧ Rps c H ps r := by unfold Rps at h; exact h
theorem rps_nil_inv (h : Rps c H [] vs) : vs = [] := by unfold Rps at h; exact h
theorem rps_len : ∀ {ps : List P} {vs : List V}, Rps c H ps vs → ps.length = vs.length
  | [], _, h => by rw [rps_nil_inv h]; rfl
  | p :: ps, _, h => by
    obtain ⟨v, r, rfl, _, h2⟩ := rps_inv h
    simp [rps_len h2]
theorem rps_get : ∀ {ps : List P} {vs : List V} {i : Nat} {p : P}, Rps c H ps vs → ps[i]? = some p → ∃ v, vs[i]? = some v ∧ Rp c H p v
  | [], _, _, _, _, e => by simp at e
  | _ :: _, _, 0, _, h, e => by
    obtain ⟨v, r, rfl, h1, _⟩ := rps_inv h
    simp at e; subst e
    exact ⟨v, rfl, h1⟩
  | _ :: _, _, i + 1, _, h, e => by
    obtain ⟨v, r, rfl, _, h2⟩ := rps_inv h
    obtain ⟨w, h3, h4⟩ := rps_get (i := i) h2 (by simpa using e)
    exact ⟨w, by simpa using h3, h4⟩
theorem rps_getV : ∀ {ps : List P} {vs : List V} {i : Nat} {v : V}, Rps c H ps vs → vs[i]? = some v → ∃ p, ps[i]? = some p ∧ Rp c H p v
  | [], _, _, _, h, e => by rw [rps_nil_inv h] at e; simp at e
  | _ :: _, _, 0, _, h, e => by
    obtain ⟨v, r, rfl, h1, _⟩ := rps_inv h
    simp at e; subst e
    exact ⟨_, rfl, h1⟩
  | _ :: _, _, i + 1, _, h, e => by
    obtain ⟨v, r, rfl, _, h2⟩ := rps_inv h
    obtain ⟨w, h3, h4⟩ := rps_getV (i := i) h2 (by simpa using e)
    exact ⟨w, by simpa using h3, h4⟩
theorem rps_append : ∀ {ps qs : List P} {vs ws : List V}, Rps c H ps vs → Rps c H qs ws → Rps c H (ps ++ qs) (vs ++ ws)
  | [], _, _, _, h, k => by rw [rps_nil_inv h]; exact k
  | p :: ps, _, _, _, h, k => by
    obtain ⟨v, r, rfl, h1, h2⟩ := rps_inv h
    exact rps_cons h1 (rps_append h2 k)
theorem rps_drop : ∀ {ps : List P} {vs : List V} (n : Nat), Rps c H ps vs → Rps c H (ps.drop n) (vs.drop n)
  | _, _, 0, h => h
  | [], _, n + 1, h => by rw [rps_nil_inv h]; exact rps_nil
  | p :: ps, _, n + 1, h => by
    obtain ⟨v, r, rfl, h1, h2⟩ := rps_inv h
    exact rps_drop n h2
theorem rps_take : ∀ {ps : List P} {vs : List V} (n : Nat), Rps c H ps vs → Rps c H (ps.take n) (vs.take n)
  | _, _, 0, h => rps_nil
  | [], _, n + 1, h => by rw [rps_nil_inv h]; exact rps_nil
  | p :: ps, _, n + 1, h => by
    obtain ⟨v, r, rfl, h1, h2⟩ := rps_inv h
    exact rps_cons h1 (rps_take n h2)
theorem rps_set : ∀ {ps : List P} {vs : List V} (n : Nat) {p : P} {v : V}, Rps c H ps vs → Rp c H p v → Rps c H (ps.set n p) (vs.set n v)
  | [], _, _, _, _, h, _ => by rw [rps_nil_inv h]; exact rps_nil
  | _ :: _, _, 0, _, _, h, k => by
    obtain ⟨v, r, rfl, h1, h2⟩ := rps_inv h
    exact rps_cons k h2
  | _ :: _, _, n + 1, _, _, h, k => by
    obtain ⟨v, r, rfl, h1, h2⟩ := rps_inv h
    exact rps_cons h1 (rps_set n h2 k)
theorem rps_reverse : ∀ {ps : List P} {vs : List V}, Rps c H ps vs → Rps c H ps.reverse vs.reverse
  | [], _, h => by rw [rps_nil_inv h]; exact rps_nil
  | p :: ps, _, h => by
    obtain ⟨v, r, rfl, h1, h2⟩ := rps_inv h
    rw [List.reverse_cons, List.reverse_cons]
    exact rps_append (rps_reverse h2) (rps_cons h1 rps_nil)
theorem rp_int {i : Int} (h : Rp c H (.int i) v) : v = .int i := by unfold Rp at h; exact h
theorem rp_bl {b : Bool} (h : Rp c H (.bl b) v) : v = .bl b := by unfold Rp at h; exact h
theorem rp_str {x : Str} (h : Rp c H (.str x) v) : v = .str x := by unfold Rp at h; exact h
theorem rp_non (h : Rp c H .non v) : v = .non := by unfold Rp at h; exact h
theorem rp_fn {f : Nat} (h : Rp c H (.fn f) v) : v = .ref (c.fna f) := by unfold Rp at h; exact h
theorem rp_ty {n : String} (h : Rp c H (.ty n) v) : v = .ty n := by unfold Rp at h; exact h
theorem rp_cls {C : Nat} (h : Rp c H (.cls C) v) : v = .ref (c.cls C) := by unfold Rp at h; exact h
theorem mk_ty {n : String} : Rp c H (.ty n) (.ty n) := by unfold Rp; rfl
theorem mk_cls {C : Nat} : Rp c H (.cls C) (.ref (c.cls C)) := by unfold Rp; rfl
theorem mk_fn {f : Nat} : Rp c H (.fn f) (.ref (c.fna f)) := by unfold Rp; rfl
theorem rp_tup (h : Rp c H (.tup ps) v) : ∃ a vs, v = .ref a ∧ SqT c.K H a vs ∧ Rps c H ps vs := by unfold Rp at h; exact h
theorem rp_scr {ns : List Int} (h : Rp c H (.scr ns) v) : ∃ a, v = .ref a ∧ SqL c.K H a (ns.map V.int) := by unfold Rp at h; exact h
theorem mk_scr {a : Addr} {ns : List Int} (h : SqL c.K H a (ns.map V.int)) : Rp c H (.scr ns) (.ref a) := by unfold Rp; exact ⟨a, rfl, h⟩
theorem rp_lst (h : Rp c H (.lst ps) v) : ∃ a vs, v = .ref a ∧ H a = some (.lst vs) ∧ Rps c H ps vs := by unfold Rp at h; exact h
theorem rp_obj {C : Nat} (h : Rp c H (.obj C ps) v) : ∃ a dx vs, v = .ref a ∧ H a = some (.ins (c.cls C) dx ((c.lay C).zip vs)) ∧ Rps c H ps vs := by unfold Rp at h; exact h
theorem mk_int {i : Int} : Rp c H (.int i) (.int i) := by unfold Rp; rfl
theorem mk_bl {b : Bool} : Rp c H (.bl b) (.bl b) := by unfold Rp; rfl
theorem mk_str {x : Str} : Rp c H (.str x) (.str x) := by unfold Rp; rfl
theorem mk_non : Rp c H .non .non := by unfold Rp; rfl
theorem mk_tup {a : Addr} (h : SqT c.K H a vs) (r : Rps c H ps vs) : Rp c H (.tup ps) (.ref a) := by unfold Rp; exact ⟨a, vs, rfl, h, r⟩
theorem mk_lst {a : Addr} (h : H a = some (.lst vs)) (r : Rps c H ps vs) : Rp c H (.lst ps) (.ref a) := by unfold Rp; exact ⟨a, vs, rfl, h, r⟩
theorem mk_obj {a dx : Addr} {C : Nat} (h : H a = some (.ins (c.cls C) dx ((c.lay C).zip vs))) (r : Rps c H ps vs) : Rp c H (.obj C ps) (.ref a) := by unfold Rp; exact ⟨a, dx, vs, rfl, h, r⟩
end

/-! ### slots -/
/-- what a slot owns: nothing else leads to it -/
inductive O where
  | lst (xs : List P) | dct (t : Bool) (ks vs : List P) | obj (C : Nat) (vs : List P)
def O.toP : O → P
  | .lst xs => .lst xs
  | .dct t ks vs => .dct t ks vs
  | .obj C vs => .obj C vs
/-- a slot: empty, a value that never changes, an object of its own, an object lent by the caller -/
inductive Sl where
  | no | val (p : P) | own (o : O) | loan (o : O)
def Sl.ow : Sl → Option O
  | .own o => some o
  | .loan o => some o
  | _ => none
abbrev En := List Sl
/-- an object that is owned: its parts never change (they lie in F) -/
def OwR (c : Ctx) (F H : Hp) : O → Addr → Prop
  | .lst ps, a => ∃ vs, H a = some (.lst vs) ∧ Rps c F ps vs
  | .dct t ks ws, a => ∃ vs, Rps c F ws vs ∧
      (if t = true then ∃ kvs : List (List Key × V), H a = some (.dT kvs) ∧ ks = kvs.map (fun q => tkeyP q.1) ∧ vs = kvs.map (·.2) ∧ (kvs.map (·.1)).Nodup
       else ∃ kvs : List (Key × V), H a = some (.dK kvs) ∧ ks = kvs.map (fun q => keyP q.1) ∧ vs = kvs.map (·.2) ∧ (kvs.map (·.1)).Nodup)
  | .obj C ps, a => ∃ dx vs, H a = some (.ins (c.cls C) dx ((c.lay C).zip vs)) ∧ Rps c F ps vs
theorem OwR.there {c : Ctx} {F H : Hp} {o : O} {a : Addr} (h : OwR c F H o a) : ∃ u, H a = some u := by
  cases o with
  | lst ps => obtain ⟨vs, h, _⟩ := h; exact ⟨_, h⟩
  | dct t ks ws =>
    obtain ⟨vs, _, h⟩ := h
    cases t
    · obtain ⟨kvs, h, _⟩ := h; exact ⟨_, h⟩
    · obtain ⟨kvs, h, _⟩ := h; exact ⟨_, h⟩
  | obj C ps => obtain ⟨dx, vs, h, _⟩ := h; exact ⟨_, h⟩
theorem OwR.step {c : Ctx} {F H F' H' : Hp} {o : O} {a : Addr} (h : OwR c F H o a) (l : Le F F') (k : ∀ u, H a = some u → H' a = some u) : OwR c F' H' o a := by
  cases o with
  | lst ps => obtain ⟨vs, h, r⟩ := h; exact ⟨vs, k _ h, Rps.mono l _ _ r⟩
  | dct t ks ws =>
    obtain ⟨vs, r, h⟩ := h
    refine ⟨vs, Rps.mono l _ _ r, ?_⟩
    cases t
    · obtain ⟨kvs, h, q⟩ := h; exact ⟨kvs, k _ h, q⟩
    · obtain ⟨kvs, h, q⟩ := h; exact ⟨kvs, k _ h, q⟩
  | obj C ps => obtain ⟨dx, vs, h, r⟩ := h; exact ⟨dx, vs, k _ h, Rps.mono l _ _ r⟩
/-- seen as a value, where its object is known -/
theorem OwR.rp {c : Ctx} {F H G : Hp} {o : O} {a : Addr} (h : OwR c F H o a) (l : Le F G) (k : ∀ u, H a = some u → G a = some u) : Rp c G o.toP (.ref a) := by
  cases o with
  | lst ps => obtain ⟨vs, h, r⟩ := h; exact mk_lst (k _ h) (Rps.mono l _ _ r)
  | dct t ks ws =>
    obtain ⟨vs, r, h⟩ := h
    show Rp c G (.dct t ks ws) (.ref a)
    unfold Rp
    refine ⟨a, vs, rfl, Rps.mono l _ _ r, ?_⟩
    cases t
    · obtain ⟨kvs, h, q⟩ := h; exact ⟨kvs, .inl (k _ h), q⟩
    · obtain ⟨kvs, h, q⟩ := h; exact ⟨kvs, .inl (k _ h), q⟩
  | obj C ps => obtain ⟨dx, vs, h, r⟩ := h; exact mk_obj (k _ h) (Rps.mono l _ _ r)

def Own (π : En) (σ : L2.St) (a : Addr) : Prop := ∃ (i : Nat) (s : Sl) (o : O), π[i]? = some s ∧ s.ow = some o ∧ σ[i]? = some (some (.ref a))
def Lent (π : En) (σ : L2.St) (a : Addr) : Prop := ∃ (i : Nat) (o : O), π[i]? = some (.loan o) ∧ σ[i]? = some (some (.ref a))
theorem Lent.own {π : En} {σ : L2.St} {a : Addr} (h : Lent π σ a) : Own π σ a := by
  obtain ⟨i, o, h1, h2⟩ := h
  exact ⟨i, _, o, h1, rfl, h2⟩
/-- slots σ and heap H stand for π; F: what never changes -/
structure SR (c : Ctx) (F : Hp) (π : En) (σ : L2.St) (H : Hp) : Prop where
  le : Le F H
  len : π.length = σ.length
  vl : ∀ (i : Nat) (p : P), π[i]? = some (.val p) → ∃ v, σ[i]? = some (some v) ∧ Rp c F p v
  ow : ∀ (i : Nat) (s : Sl) (o : O), π[i]? = some s → s.ow = some o → ∃ a, σ[i]? = some (some (.ref a)) ∧ F a = none ∧ OwR c F H o a
  dj : ∀ (i j : Nat) (s s' : Sl) (o o' : O) (a : Addr), π[i]? = some s → s.ow = some o → π[j]? = some s' → s'.ow = some o' → σ[i]? = some (some (.ref a)) → σ[j]? = some (some (.ref a)) → i = j
/-- from (F, π, σ, H) on -/
structure Tr (F : Hp) (π : En) (σ : L2.St) (H F' : Hp) (π' : En) (σ' : L2.St) (H' : Hp) : Prop where
  le : Le F F'
  keep : ∀ a o, H a = some o → ¬ Own π σ a → H' a = some o
  new : ∀ a, F' a ≠ none → F a ≠ none ∨ H a = none ∨ Own π σ a
  own : ∀ a, Own π' σ' a → H a = none ∨ Own π σ a
  ln : ∀ (i : Nat) (o : O), π[i]? = some (.loan o) → σ'[i]? = σ[i]? ∧ ∃ o', π'[i]? = some (.loan o')
theorem Tr.refl {F : Hp} {π : En} {σ : L2.St} {H : Hp} : Tr F π σ H F π σ H :=
  ⟨Le.refl F, fun _ _ h _ => h, fun _ h => .inl h, fun _ h => .inr h, fun i o h => ⟨rfl, o, h⟩⟩
theorem Tr.trans {F F1 F2 : Hp} {π π1 π2 : En} {σ σ1 σ2 : L2.St} {H H1 H2 : Hp} (a : Tr F π σ H F1 π1 σ1 H1) (b : Tr F1 π1 σ1 H1 F2 π2 σ2 H2) : Tr F π σ H F2 π2 σ2 H2 where
  le := a.le.trans b.le
  keep := fun x o h n => b.keep x o (a.keep x o h n) fun z => by
    rcases a.own x z with q | q
    · rw [h] at q; cases q
    · exact n q
  new := fun x h => by
    rcases b.new x h with q | q | q
    · exact a.new x q
    · by_cases n : Own π σ x
      · exact .inr (.inr n)
      · cases e : H x with
        | none => exact .inr (.inl rfl)
        | some o => rw [a.keep x o e n] at q; cases q
    · rcases a.own x q with q | q
      · exact .inr (.inl q)
      · exact .inr (.inr q)
  own := fun x h => by
    rcases b.own x h with q | q
    · by_cases n : Own π σ x
      · exact .inr n
      · cases e : H x with
        | none => exact .inl rfl
        | some o => rw [a.keep x o e n] at q; cases q
    · exact a.own x q
  ln := fun i o h => by
    obtain ⟨e1, o1, h1⟩ := a.ln i o h
    obtain ⟨e2, o2, h2⟩ := b.ln i o1 h1
    exact ⟨e2.trans e1, o2, h2⟩
/-- fresh with regard to a start -/
def Fr0 (π : En) (σ : L2.St) (H : Hp) (a : Addr) : Prop := H a = none ∨ Own π σ a
theorem Fr0.back {F F1 : Hp} {π π1 : En} {σ σ1 : L2.St} {H H1 : Hp} (t : Tr F π σ H F1 π1 σ1 H1) {a : Addr} (h : Fr0 π1 σ1 H1 a) : Fr0 π σ H a := by
  rcases h with q | q
  · by_cases n : Own π σ a
    · exact .inr n
    · cases e : H a with
      | none => exact .inl e
      | some o => rw [t.keep a o e n] at q; cases q
  · exact t.own a q
end PV

namespace PV
open PySem L2

/-- a result: a value, a new object that nothing else leads to, or what slot i owns -/
inductive Rs where
  | val (p : P) | own (o : O) | bor (i : Nat)
inductive Rv where
  | val (p : P) | own (o : O)
inductive Out (α : Type) where
  | ok (a : α) (π : En) | exc (C : Nat) (ps : List P) (π : En) | bad
abbrev M (α : Type) := En → Out α
def Out.bind {α β : Type} (o : Out α) (f : α → M β) : Out β := match o with
  | .ok a π => f a π
  | .exc C ps π => .exc C ps π
  | .bad => .bad
def M.bind {α β : Type} (m : M α) (f : α → M β) : M β := fun π => (m π).bind f

/-- an exception's own dict -/
def XdOk (c : Ctx) (F : Hp) (C : Nat) (ps : List P) (d : Option Addr) : Prop :=
  (c.lay C = [] ∧ d = none) ∨ ∃ a vs, d = some a ∧ F a = some (.xd ((c.lay C).zip vs).reverse) ∧ Rps c F ps vs
/-- what is wanted of exceptions; what is known of F besides -/
structure Wi where
  W : WX
  g : L2.St → Hp → Prop
  mono : ∀ {σ : L2.St} (F F' : Hp), Le F F' → g σ F → g σ F'
/-- .. whatever the slots hold -/
structure Ws where
  W : WX
  g : Hp → Prop
  mono : ∀ F F', Le F F' → g F → g F'
def Ws.up (w : Ws) : Wi := ⟨w.W, fun _ => w.g, fun F F' => w.mono F F'⟩
instance : Coe Ws Wi := ⟨Ws.up⟩

def Po {α : Type} (c : Ctx) (W : WX) (F : Hp) (π : En) (σ : L2.St) (H : Hp) (o : Out α) (K : α → En → Hp → Hp → Prop) : Prop := match o with
  | .ok a π' => ∀ F' H', Tr F π σ H F' π' σ H' → SR c F' π' σ H' → K a π' F' H'
  | .exc C ps π' => ∀ F' H' d, Tr F π σ H F' π' σ H' → SR c F' π' σ H' → XdOk c F' C ps d → W (.ref (c.cls C)) d σ H'
  | .bad => False
section
variable {α β : Type} {c : Ctx} {W : WX} {F F1 H H1 : Hp} {π π1 : En} {σ : L2.St} {o : Out α} {K K' : α → En → Hp → Hp → Prop} {J : β → En → Hp → Hp → Prop}
theorem Po.mono (h : Po c W F π σ H o K) (k : ∀ a π' F' H', Tr F π σ H F' π' σ H' → SR c F' π' σ H' → K a π' F' H' → K' a π' F' H') : Po c W F π σ H o K' := by
  cases o with
  | ok a π' => exact fun F' H' t s => k a π' F' H' t s (h F' H' t s)
  | exc C ps π' => exact h
  | bad => exact h
theorem Po.from (h : Po c W F π σ H o K) (t : Tr F π σ H F1 π1 σ H1) : Po c W F1 π1 σ H1 o K := by
  cases o with
  | ok a π' => exact fun F' H' t' s => h F' H' (t.trans t') s
  | exc C ps π' => exact fun F' H' d t' s => h F' H' d (t.trans t') s
  | bad => exact h
theorem Po.split {f : α → M β} (h : Po c W F π σ H (o.bind f) J) : Po c W F π σ H o (fun a π1 F1 H1 => Po c W F1 π1 σ H1 (f a π1) J) := by
  cases o with
  | ok a π' => exact fun F' H' t s => Po.from h t
  | exc C ps π' => exact h
  | bad => exact h
end

/-- what a result is -/
def RR (c : Ctx) (π0 : En) (H0 F : Hp) (π : En) (σ : L2.St) (H : Hp) : Rs → V → Prop
  | .val p, v => Rp c F p v
  | .own o, v => ∃ a, v = .ref a ∧ F a = none ∧ ¬ Own π σ a ∧ OwR c F H o a ∧ Fr0 π0 σ H0 a
  | .bor i, v => σ[i]? = some (some v)
def rdP (π : En) : Rs → Option P
  | .val p => some p
  | .own o => some o.toP
  | .bor i => match π[i]? with
    | some (.own o) => some o.toP
    | some (.loan o) => some o.toP
    | some (.val p) => some p
    | _ => none
/-- readable: a value, or an owned object as it stands -/
def Rb (c : Ctx) (F H : Hp) (p : P) (v : V) : Prop := Rp c F p v ∨ ∃ a o, v = .ref a ∧ OwR c F H o a ∧ p = o.toP
section
variable {c : Ctx} {W : WX} {F F' F1 H H' H1 H0 : Hp} {π π' π0 : En} {σ : L2.St} {r : Rs} {v : V} {p : P} {o : O} {a : Addr} {i : Nat} {u : HO}
theorem RR.step (h : RR c π0 H0 F π σ H r v) (t : Tr F π σ H F' π' σ H') : RR c π0 H0 F' π' σ H' r v := by
  cases r with
  | val p => exact Rp.mono t.le _ _ h
  | bor i => exact h
  | own o =>
    obtain ⟨a, e, h1, h2, h3, h4⟩ := h
    obtain ⟨u, hu⟩ := h3.there
    refine ⟨a, e, ?_, fun z => ?_, h3.step t.le (fun u' q => t.keep a u' q h2), h4⟩
    · cases q : F' a with
      | none => rfl
      | some x =>
        rcases t.new a (by rw [q]; exact fun z => nomatch z) with z | z | z
        · exact absurd h1 z
        · rw [hu] at z; cases z
        · exact absurd z h2
    · rcases t.own a z with q | q
      · rw [hu] at q; cases q
      · exact h2 q
theorem RR.base {Fz : Hp} (h : RR c π0 H0 F π σ H r v) (t : Tr Fz π' σ H' F1 π0 σ H0) : RR c π' H' F π σ H r v := by
  cases r with
  | val p => exact h
  | bor i => exact h
  | own o =>
    obtain ⟨a, e, h1, h2, h3, h4⟩ := h
    exact ⟨a, e, h1, h2, h3, h4.back t⟩
theorem RR.rb (s : SR c F π σ H) (h : RR c π0 H0 F π σ H r v) (e : rdP π r = some p) : Rb c F H p v := by
  cases r with
  | val q =>
    have e' : q = p := Option.some.inj e
    subst e'
    exact .inl h
  | own o =>
    have e' : o.toP = p := Option.some.inj e
    obtain ⟨a, e2, h1, h2, h3, h4⟩ := h
    exact .inr ⟨a, o, e2, h3, e'.symm⟩
  | bor i =>
    simp only [rdP] at e
    have h' : σ[i]? = some (some v) := h
    cases q : π[i]? with
    | none => rw [q] at e; cases e
    | some sl =>
      rw [q] at e
      cases sl with
      | no => cases e
      | val p' =>
        have e' : p' = p := Option.some.inj e
        subst e'
        obtain ⟨v', e1, h1⟩ := s.vl i p' q
        rw [h'] at e1
        have e3 : v = v' := Option.some.inj (Option.some.inj e1)
        subst e3
        exact .inl h1
      | own o =>
        have e' : o.toP = p := Option.some.inj e
        obtain ⟨a, e1, h1, h2⟩ := s.ow i _ o q rfl
        rw [h'] at e1
        exact .inr ⟨a, o, Option.some.inj (Option.some.inj e1), h2, e'.symm⟩
      | loan o =>
        have e' : o.toP = p := Option.some.inj e
        obtain ⟨a, e1, h1, h2⟩ := s.ow i _ o q rfl
        rw [h'] at e1
        exact .inr ⟨a, o, Option.some.inj (Option.some.inj e1), h2, e'.symm⟩
/-- an object that nothing leads to is known from now on -/
theorem SR.grow (s : SR c F π σ H) (hF : F a = none) (hn : ¬ Own π σ a) (hu : H a = some u) : SR c (L2.upd F a u) π σ H where
  le := fun b x e => by
    by_cases z : b = a
    · subst z; rw [upd_same] at e; cases e; exact .inl hu
    · rw [upd_ne z] at e; exact s.le b x e
  len := s.len
  vl := fun i p e => by
    obtain ⟨v, e1, h1⟩ := s.vl i p e
    exact ⟨v, e1, Rp.mono (Le.new u hF) _ _ h1⟩
  ow := fun i sl o e1 e2 => by
    obtain ⟨b, e3, h1, h2⟩ := s.ow i sl o e1 e2
    refine ⟨b, e3, ?_, h2.step (Le.new u hF) fun _ q => q⟩
    rw [upd_ne fun z => ?_]
    · exact h1
    · subst z; exact hn ⟨i, sl, o, e1, e2, e3⟩
  dj := s.dj
theorem Tr.grow (t : Tr F1 π' σ H1 F π σ H) (hF : F a = none) (hf : Fr0 π' σ H1 a) : Tr F1 π' σ H1 (L2.upd F a u) π σ H where
  le := t.le.trans (Le.new u hF)
  keep := t.keep
  new := fun b e => by
    by_cases z : b = a
    · subst z
      exact .inr hf
    · rw [upd_ne z] at e; exact t.new b e
  own := t.own
  ln := t.ln
/-- what slot i owns never changes from now on -/
theorem SR.freeze (s : SR c F π σ H) (hi : π[i]? = some (.own o)) (hσ : σ[i]? = some (some (.ref a))) (hu : H a = some u) :
    SR c (L2.upd F a u) (π.set i (.val o.toP)) σ H ∧ Tr F π σ H (L2.upd F a u) (π.set i (.val o.toP)) σ H ∧ Rp c (L2.upd F a u) o.toP (.ref a) := by
  obtain ⟨b, e1, hF, hO⟩ := s.ow i _ o hi rfl
  rw [hσ] at e1
  have e2 : a = b := by injection Option.some.inj (Option.some.inj e1)
  subst e2
  have hlt : i < π.length := (List.getElem?_eq_some_iff.mp hi).1
  have rp : Rp c (L2.upd F a u) o.toP (.ref a) := hO.rp (Le.new u hF) fun x q => by
    rw [hu] at q; cases q; exact upd_same
  have back : ∀ (j : Nat) (sl : Sl) (o' : O), (π.set i (.val o.toP))[j]? = some sl → sl.ow = some o' → π[j]? = some sl ∧ j ≠ i := fun j sl o' e1 e2 => by
    by_cases z : j = i
    · subst z
      rw [List.getElem?_set_self hlt] at e1
      cases e1
      cases e2
    · rw [List.getElem?_set_ne (Ne.symm z)] at e1
      exact ⟨e1, z⟩
  have own' : ∀ b, Own (π.set i (.val o.toP)) σ b → Own π σ b := fun b ⟨j, sl, o', e1, e2, e3⟩ => ⟨j, sl, o', (back j sl o' e1 e2).1, e2, e3⟩
  refine ⟨⟨?_, by simpa using s.len, ?_, ?_, ?_⟩, ⟨Le.new u hF, fun _ _ h _ => h, fun b e => ?_, fun b h => .inr (own' b h), fun j o' e => ⟨rfl, o', ?_⟩⟩, rp⟩
  · exact fun b x e => by
      by_cases z : b = a
      · subst z; rw [upd_same] at e; cases e; exact .inl hu
      · rw [upd_ne z] at e; exact s.le b x e
  · intro j p e
    by_cases z : j = i
    · subst z
      rw [List.getElem?_set_self hlt] at e
      cases e
      exact ⟨_, hσ, rp⟩
    · rw [List.getElem?_set_ne (Ne.symm z)] at e
      obtain ⟨v, e1, h1⟩ := s.vl j p e
      exact ⟨v, e1, Rp.mono (Le.new u hF) _ _ h1⟩
  · intro j sl o' e1 e2
    obtain ⟨e1', ne⟩ := back j sl o' e1 e2
    obtain ⟨b, e3, h1, h2⟩ := s.ow j sl o' e1' e2
    refine ⟨b, e3, ?_, h2.step (Le.new u hF) fun _ q => q⟩
    rw [upd_ne fun z => ?_]
    · exact h1
    · subst z; exact ne (s.dj j i _ _ o' o _ e1' e2 hi rfl e3 hσ)
  · intro j k sl sl' o1 o2 b e1 e2 e3 e4 e5 e6
    exact s.dj j k sl sl' o1 o2 b (back j sl o1 e1 e2).1 e2 (back k sl' o2 e3 e4).1 e4 e5 e6
  · by_cases z : b = a
    · subst z; exact .inr (.inr ⟨i, _, o, hi, rfl, hσ⟩)
    · rw [upd_ne z] at e; exact .inl e
  · by_cases z : j = i
    · subst z; rw [hi] at e; cases e
    · rw [List.getElem?_set_ne (Ne.symm z)]; exact e
end

/-! ### readings of expressions -/
def tE (c : Ctx) (w : Wi) (f : M Rs) : TE := fun σ H Q => ∃ F π, w.g σ F ∧ SR c F π σ H ∧ Po c w.W F π σ H (f π) (fun r π' F' H' => ∀ v, RR c π H F' π' σ H' r v → Q v H')
/-- as a value -/
def tV (c : Ctx) (w : Wi) (f : M P) : TE := fun σ H Q => ∃ F π, w.g σ F ∧ SR c F π σ H ∧ Po c w.W F π σ H (f π) (fun p π' F' H' => ∀ v, Rp c F' p v → Q v H')
def tT (c : Ctx) (w : Wi) (f : M Bool) : TT := fun σ H Q => ∃ F π, w.g σ F ∧ SR c F π σ H ∧ Po c w.W F π σ H (f π) (fun b π' F' H' => Q b H')
def tAs (c : Ctx) (w : Wi) (f : M (List P)) : TA := fun σ H Q => ∃ F π, w.g σ F ∧ SR c F π σ H ∧ Po c w.W F π σ H (f π) (fun ps π' F' H' => ∀ vs, Rps c F' ps vs → Q vs H')
/-- a result is taken: from now on it never changes -/
def takeR (r : Rs) : M P := fun π => match r with
  | .val p => .ok p π
  | .own o => .ok o.toP π
  | .bor i => match π[i]? with
    | some (.own o) => .ok o.toP (π.set i (.val o.toP))
    | some (.val p) => .ok p π
    | _ => .bad
def takeF (f : M Rs) : M P := fun π => (f π).bind takeR
theorem tE_of_tV {c : Ctx} {w : Wi} {f : M Rs} {σ : L2.St} {H : Hp} {Q : VK} (h : tV c w (takeF f) σ H Q) : tE c w f σ H Q := by
  obtain ⟨F, π, g, s, po⟩ := h
  refine ⟨F, π, g, s, ?_⟩
  unfold takeF at po
  cases e : f π with
  | bad => rw [e] at po; exact po
  | exc C ps π1 => rw [e] at po; exact po
  | ok r π1 =>
    rw [e] at po
    intro F1 H1 t s1 v hr
    cases r with
    | val p => exact po F1 H1 t s1 v hr
    | own o =>
      obtain ⟨a, rfl, h1, h2, h3, h4⟩ := hr
      obtain ⟨u, hu⟩ := h3.there
      exact po (L2.upd F1 a u) H1 (t.grow h1 h4) (s1.grow h1 h2 hu) _ (h3.rp (Le.new u h1) fun x q => by rw [hu] at q; cases q; exact upd_same)
    | bor i =>
      have hr' : σ[i]? = some (some v) := hr
      simp only [Out.bind, takeR] at po
      cases q : π1[i]? with
      | none => rw [q] at po; exact po.elim
      | some sl =>
        rw [q] at po
        cases sl with
        | no => exact po.elim
        | loan o => exact po.elim
        | val p =>
          obtain ⟨v', e1, h1⟩ := s1.vl i p q
          rw [hr'] at e1
          have e3 : v = v' := Option.some.inj (Option.some.inj e1)
          subst e3
          exact po F1 H1 t s1 v h1
        | own o =>
          obtain ⟨a, e1, h1, h2⟩ := s1.ow i _ o q rfl
          rw [hr'] at e1
          have e3 : v = .ref a := Option.some.inj (Option.some.inj e1)
          subst e3
          obtain ⟨u, hu⟩ := h2.there
          obtain ⟨s2, t2, rp⟩ := s1.freeze q hr' hu
          exact po _ H1 (t.trans t2) s2 _ rp
theorem pe_weak {X : Cx} {e : Expr} {t t' : TE} (h : PE X e t) (k : ∀ σ H Q, t' σ H Q → t σ H Q) : PE X e t' := ⟨fun pins s σ H Q I q => h.run pins s σ H Q I (k _ _ _ q)⟩
theorem pt_weak {X : Cx} {e : Expr} {t t' : TT} (h : PT X e t) (k : ∀ σ H Q, t' σ H Q → t σ H Q) : PT X e t' := ⟨fun pins s σ H Q I q => h.run pins s σ H Q I (k _ _ _ q)⟩
theorem pa_weak {X : Cx} {e : List Expr} {t t' : TA} (h : PA X e t) (k : ∀ σ H Q, t' σ H Q → t σ H Q) : PA X e t' := ⟨fun pos pins s σ H Q I q => h.run pos pins s σ H Q I (k _ _ _ q)⟩
theorem ps_weak {X : Cx} {e : Stmt} {t t' : TS} (h : PS X e t) (k : ∀ D σ H, t' D σ H → t D σ H) : PS X e t' := ⟨fun pins s σ H Q I q => h.run pins s σ H Q I (k _ _ _ q)⟩
theorem pss_weak {X : Cx} {e : List Stmt} {t t' : TS} (h : PSs X e t) (k : ∀ D σ H, t' D σ H → t D σ H) : PSs X e t' := ⟨fun pins s σ H Q I q => h.run pins s σ H Q I (k _ _ _ q)⟩
section
variable {X : Cx} {c : Ctx} {w : Wi} {e : Expr} {pos : Pos} {f : M Rs}
/-- e, taken -/
theorem p_take (h : PE X e (tE c w f)) : PE X e (tV c w (takeF f)) := pe_weak h fun _ _ _ => tE_of_tV
/-- a value is a result -/
def valF (f : M P) : M Rs := fun π => (f π).bind fun p π' => .ok (.val p) π'
theorem p_val {f : M P} (h : PE X e (tV c w f)) : PE X e (tE c w (valF f)) := pe_weak h fun σ H Q ⟨F, π, g, s, po⟩ =>
  ⟨F, π, g, s, (Po.split po).mono fun p π1 F1 H1 t s1 p1 v hr => p1 F1 H1 .refl s1 v hr⟩
/-- names -/
def varF (i : Nat) : M Rs := fun π => match π[i]? with
  | some (.val p) => .ok (.val p) π
  | some (.own _) => .ok (.bor i) π
  | some (.loan _) => .ok (.bor i) π
  | _ => .bad
theorem p_var {x : Str} (i : Nat) (hN : X.N[i]? = some x := by rfl) (hv : Vis X.env.scope x := by first | exact Or.inl rfl | exact Or.inr (Or.inl rfl) | exact Or.inr (Or.inr rfl)) (hd : (x == ("__debug__" : Str)) = false := by decide)
    (hcd : (x == ("__classdict__" : Str)) = false := by decide) : PE X (.Name x pos) (tE c w (varF i)) := pe_weak (pe_var hN hv hd hcd) fun σ H Q ⟨F, π, g, s, po⟩ => by
  simp only [varF] at po
  cases q : π[i]? with
  | none => rw [q] at po; exact po.elim
  | some sl =>
    rw [q] at po
    cases sl with
    | no => exact po.elim
    | val p =>
      obtain ⟨v, e1, h1⟩ := s.vl i p q
      exact ⟨v, e1, po F H .refl s v h1⟩
    | own o =>
      obtain ⟨a, e1, h1⟩ := s.ow i _ o q rfl
      exact ⟨_, e1, po F H .refl s _ e1⟩
    | loan o =>
      obtain ⟨a, e1, h1⟩ := s.ow i _ o q rfl
      exact ⟨_, e1, po F H .refl s _ e1⟩
/-- constants -/
def cF (p : P) : M Rs := fun π => .ok (.val p) π
theorem tC_of {p : P} {v : V} (h : ∀ F, Rp c F p v) : ∀ σ H Q, tE c w (cF p) σ H Q → tC v σ H Q := fun σ H Q ⟨F, π, g, s, po⟩ => po F H .refl s v (h F)
theorem p_int {i : Int} {j} : PE X (.Constant (.int i) j pos) (tE c w (cF (.int i))) := pe_weak pe_int (tC_of fun _ => mk_int)
theorem p_bl {b : Bool} {j} : PE X (.Constant (.bool b) j pos) (tE c w (cF (.bl b))) := pe_weak pe_bl (tC_of fun _ => mk_bl)
theorem p_non {j} : PE X (.Constant .none j pos) (tE c w (cF .non)) := pe_weak pe_non (tC_of fun _ => mk_non)
theorem p_str {x : Str} {j} : PE X (.Constant (.str x) j pos) (tE c w (cF (.str x))) := pe_weak pe_str (tC_of fun _ => mk_str)
end
end PV

namespace PV
open PySem L2

/-! ### operations on values that change nothing but make new objects -/
/-- F and H grow by new objects -/
structure Gr (F H F' H' : Hp) : Prop where
  le : Le F F'
  le' : Le F' H'
  keep : ∀ a o, H a = some o → H' a = some o
  new : ∀ a, F' a ≠ none → F a ≠ none ∨ H a = none
/-- a new result -/
def RN (c : Ctx) (H F' H' : Hp) : Rv → V → Prop
  | .val p, v => Rp c F' p v
  | .own o, v => ∃ a, v = .ref a ∧ H a = none ∧ F' a = none ∧ OwR c F' H' o a
section
variable {c : Ctx} {w : Wi} {W : WX} {F F' F1 H H' H1 H0 : Hp} {π π' π0 : En} {σ : L2.St} {r : Rs} {rv : Rv} {v : V} {p : P} {o : O} {a : Addr} {i : Nat} {u : HO}
theorem Gr.refl (l : Le F H) : Gr F H F H := ⟨Le.refl F, l, fun _ _ h => h, fun _ h => .inl h⟩
theorem Gr.tr (g : Gr F H F' H') : Tr F π σ H F' π σ H' := ⟨g.le, fun a o h _ => g.keep a o h, fun a h => (g.new a h).imp id .inl, fun a h => .inr h, fun i o h => ⟨rfl, o, h⟩⟩
theorem Gr.sr (g : Gr F H F' H') (s : SR c F π σ H) : SR c F' π σ H' where
  le := g.le'
  len := s.len
  vl := fun i p e => by
    obtain ⟨v, e1, h1⟩ := s.vl i p e
    exact ⟨v, e1, Rp.mono g.le _ _ h1⟩
  ow := fun i sl o e1 e2 => by
    obtain ⟨b, e3, h1, h2⟩ := s.ow i sl o e1 e2
    refine ⟨b, e3, ?_, h2.step g.le fun u q => g.keep b u q⟩
    cases q : F' b with
    | none => rfl
    | some x =>
      rcases g.new b (by rw [q]; exact fun z => nomatch z) with z | z
      · exact absurd h1 z
      · obtain ⟨u, hu⟩ := h2.there
        rw [hu] at z; cases z
  dj := s.dj
theorem own_some (s : SR c F π σ H) (h : Own π σ a) : ∃ u, H a = some u := by
  obtain ⟨i, sl, o, e1, e2, e3⟩ := h
  obtain ⟨b, e4, _, h2⟩ := s.ow i sl o e1 e2
  rw [e3] at e4
  have e5 : a = b := by injection Option.some.inj (Option.some.inj e4)
  subst e5
  exact h2.there
def Rv.rs : Rv → Rs
  | .val p => .val p
  | .own o => .own o
theorem RN.rr (s : SR c F π σ H) (g : Gr F H F' H') (h : RN c H F' H' rv v) : RR c π H F' π σ H' rv.rs v := by
  cases rv with
  | val p => exact h
  | own o =>
    obtain ⟨a, e, h1, h2, h3⟩ := h
    refine ⟨a, e, h2, fun z => ?_, h3, .inl h1⟩
    obtain ⟨u, hu⟩ := own_some s z
    rw [hu] at h1; cases h1
/-- a new tuple, list -/
theorem gr_tup {vs : List V} (l : Le F H) (h : H a = none) : Gr F H (L2.upd F a (.tup vs)) (L2.upd H a (.tup vs)) :=
  ⟨Le.new _ (l.gone h), l.upd _ _, fun b o e => by rw [upd_ne (ne_of_none e h)]; exact e, fun b e => by
    by_cases z : b = a
    · subst z; exact .inr h
    · rw [upd_ne z] at e; exact .inl e⟩
theorem gr_lst (l : Le F H) (h : H a = none) : Gr F H F (L2.upd H a u) :=
  ⟨Le.refl F, l.updR _ (l.gone h), fun b o e => by rw [upd_ne (ne_of_none e h)]; exact e, fun b e => .inl e⟩
theorem rn_tup {ps : List P} {vs : List V} (l : Le F H) (h : H a = none) (r : Rps c F ps vs) : RN c H (L2.upd F a (.tup vs)) (L2.upd H a (.tup vs)) (.val (.tup ps)) (.ref a) :=
  mk_tup (.of upd_same) (Rps.mono (Le.new _ (l.gone h)) _ _ r)
theorem rn_lst {ps : List P} {vs : List V} (l : Le F H) (h : H a = none) (r : Rps c F ps vs) : RN c H F (L2.upd H a (.lst vs)) (.own (.lst ps)) (.ref a) :=
  ⟨a, rfl, h, l.gone h, vs, upd_same, r⟩
/-- readable lists, tuples -/
theorem Rb.lst {ps : List P} (l : Le F H) (h : Rb c F H (.lst ps) v) : ∃ a vs, v = .ref a ∧ H a = some (.lst vs) ∧ Rps c F ps vs := by
  rcases h with h | ⟨a, o, e, h1, h2⟩
  · obtain ⟨a, vs, e, h1, h2⟩ := rp_lst h
    exact ⟨a, vs, e, l.lst h1, h2⟩
  · cases o with
    | lst qs =>
      cases h2
      obtain ⟨vs, h1, h3⟩ := h1
      exact ⟨a, vs, e, h1, h3⟩
    | dct t ks ws => cases h2
    | obj C ps => cases h2
theorem Rb.tup {ps : List P} (l : Le F H) (h : Rb c F H (.tup ps) v) : ∃ a vs, v = .ref a ∧ SqT c.K H a vs ∧ Rps c F ps vs ∧ Rp c F (.tup ps) v := by
  rcases h with h | ⟨a, o, e, h1, h2⟩
  · obtain ⟨a, vs, e, h1, h2⟩ := rp_tup h
    exact ⟨a, vs, e, l.sqT h1, h2, h⟩
  · cases o <;> cases h2
theorem Rb.int {i : Int} (h : Rb c F H (.int i) v) : v = .int i := by
  rcases h with h | ⟨a, o, e, h1, h2⟩
  · exact rp_int h
  · cases o <;> cases h2
theorem Rb.bl {i : Bool} (h : Rb c F H (.bl i) v) : v = .bl i := by
  rcases h with h | ⟨a, o, e, h1, h2⟩
  · exact rp_bl h
  · cases o <;> cases h2
theorem Rb.str {i : Str} (h : Rb c F H (.str i) v) : v = .str i := by
  rcases h with h | ⟨a, o, e, h1, h2⟩
  · exact rp_str h
  · cases o <;> cases h2
theorem Rb.non (h : Rb c F H .non v) : v = .non := by
  rcases h with h | ⟨a, o, e, h1, h2⟩
  · exact rp_non h
  · cases o <;> cases h2
theorem Rb.rpH (l : Le F H) (h : Rb c F H p v) : Rp c H p v := by
  rcases h with h | ⟨a, o, e, h1, h2⟩
  · exact Rp.mono l _ _ h
  · subst e; subst h2
    exact h1.rp l fun _ q => q
end

/-- o of two values, by the rule r -/
def OpV (c : Ctx) (r : R2) (o : P → P → Option Rv) : Prop := ∀ (F H : Hp) (p1 p2 : P) (x y : V) (res : Rv) (Q : VK), Le F H → Rb c F H p1 x → Rb c F H p2 y → o p1 p2 = some res →
  (∀ v F' H', Gr F H F' H' → RN c H F' H' res v → Q v H') → r x y H Q
def UnV (c : Ctx) (r : V → Hp → VK → Prop) (o : P → Option Rv) : Prop := ∀ (F H : Hp) (p : P) (x : V) (res : Rv) (Q : VK), Le F H → Rb c F H p x → o p = some res →
  (∀ v F' H', Gr F H F' H' → RN c H F' H' res v → Q v H') → r x H Q
def Rbs (c : Ctx) (F H : Hp) : List P → List V → Prop
  | [], vs => vs = []
  | p :: ps, vs => ∃ v r, vs = v :: r ∧ Rb c F H p v ∧ Rbs c F H ps r
def CalV (c : Ctx) (r : List V → Hp → VK → Prop) (o : List P → Option Rv) : Prop := ∀ (F H : Hp) (ps : List P) (xs : List V) (res : Rv) (Q : VK), Le F H → Rbs c F H ps xs → o ps = some res →
  (∀ v F' H', Gr F H F' H' → RN c H F' H' res v → Q v H') → r xs H Q

def outR (o : Option Rv) : M Rs := fun π => match o with
  | some res => .ok res.rs π
  | none => .bad
def op2 (o : P → P → Option Rv) (r1 r2 : Rs) : M Rs := fun π => match rdP π r1, rdP π r2 with
  | some p1, some p2 => outR (o p1 p2) π
  | _, _ => .bad
def op1 (o : P → Option Rv) (r1 : Rs) : M Rs := fun π => match rdP π r1 with
  | some p1 => outR (o p1) π
  | _ => .bad
def rds (π : En) : List Rs → Option (List P)
  | [] => some []
  | r :: rs => match rdP π r, rds π rs with
    | some p, some ps => some (p :: ps)
    | _, _ => none
def opN (o : List P → Option Rv) (rs : List Rs) : M Rs := fun π => match rds π rs with
  | some ps => outR (o ps) π
  | none => .bad
def binF (o : P → P → Option Rv) (f g : M Rs) : M Rs := fun π => (f π).bind fun r1 π1 => (g π1).bind fun r2 => op2 o r1 r2
def unF (o : P → Option Rv) (f : M Rs) : M Rs := fun π => (f π).bind fun r1 => op1 o r1
/-- an argument list, as it is read -/
def RRs (c : Ctx) (π0 : En) (H0 F : Hp) (π : En) (σ : L2.St) (H : Hp) : List Rs → List V → Prop
  | [], vs => vs = []
  | r :: rs, vs => ∃ v t, vs = v :: t ∧ RR c π0 H0 F π σ H r v ∧ RRs c π0 H0 F π σ H rs t
def tR (c : Ctx) (w : Wi) (f : M (List Rs)) : TA := fun σ H Q => ∃ F π, w.g σ F ∧ SR c F π σ H ∧ Po c w.W F π σ H (f π) (fun rs π' F' H' => ∀ vs, RRs c π H F' π' σ H' rs vs → Q vs H')
def nilF : M (List Rs) := fun π => .ok [] π
def consF (f : M Rs) (g : M (List Rs)) : M (List Rs) := fun π => (f π).bind fun r π1 => (g π1).bind fun rs π2 => .ok (r :: rs) π2
def calF (o : List P → Option Rv) (f : M (List Rs)) : M Rs := fun π => (f π).bind fun rs => opN o rs

section
variable {c : Ctx} {w : Wi} {W : WX} {F F' F1 H H' H1 H0 : Hp} {π π' π0 : En} {σ : L2.St} {r : Rs} {rs : List Rs} {rv : Rv} {v : V} {p : P} {o : O} {a : Addr} {i : Nat} {u : HO} {vs : List V} {ps : List P}
theorem RRs.step : ∀ {rs : List Rs} {vs : List V}, RRs c π0 H0 F π σ H rs vs → Tr F π σ H F' π' σ H' → RRs c π0 H0 F' π' σ H' rs vs
  | [], _, h, _ => h
  | r :: rs, _, h, t => by
    obtain ⟨v, l, e, h1, h2⟩ := h
    exact ⟨v, l, e, h1.step t, h2.step t⟩
theorem RRs.base {Fz : Hp} : ∀ {rs : List Rs} {vs : List V}, RRs c π0 H0 F π σ H rs vs → Tr Fz π' σ H' F1 π0 σ H0 → RRs c π' H' F π σ H rs vs
  | [], _, h, _ => h
  | r :: rs, _, h, t => by
    obtain ⟨v, l, e, h1, h2⟩ := h
    exact ⟨v, l, e, h1.base t, h2.base t⟩
theorem RRs.rbs (s : SR c F π σ H) : ∀ {rs : List Rs} {vs : List V} {ps : List P}, RRs c π0 H0 F π σ H rs vs → rds π rs = some ps → Rbs c F H ps vs
  | [], _, _, h, e => by cases e; exact h
  | r :: rs, _, _, h, e => by
    obtain ⟨v, l, e1, h1, h2⟩ := h
    unfold rds at e
    cases e2 : rdP π r with
    | none => rw [e2] at e; cases e
    | some p =>
      cases e3 : rds π rs with
      | none => rw [e2, e3] at e; cases e
      | some qs =>
        rw [e2, e3] at e
        cases e
        exact ⟨v, l, e1, h1.rb s e2, h2.rbs s e3⟩
theorem outR_post {res : Option Rv} {K : Rs → En → Hp → Hp → Prop} (s : SR c F π σ H) (po : Po c W F π σ H (outR res π) K) : ∃ rv, res = some rv ∧ ∀ v F' H', Gr F H F' H' → RN c H F' H' rv v → K rv.rs π F' H' ∧ RR c π H F' π σ H' rv.rs v := by
  cases res with
  | none => exact po.elim
  | some rv => exact ⟨rv, rfl, fun v F' H' g h => ⟨po F' H' g.tr (g.sr s), h.rr s g⟩⟩
end

section
variable {X : Cx} {c : Ctx} {w : Wi} {a b : Expr} {es : List Expr} {pos : Pos} {f g : M Rs} {fs : M (List Rs)}
theorem bin_weak {r : R2} {o : P → P → Option Rv} (hv : OpV c r o) : ∀ σ H Q, tE c w (binF o f g) σ H Q → tOp r (tE c w f) (tE c w g) σ H Q := fun σ H Q ⟨F, π, gg, s, po⟩ => by
  refine ⟨F, π, gg, s, (Po.split po).mono fun r1 π1 F1 H1 t1 s1 p1 x hx => ⟨F1, π1, w.mono _ _ t1.le gg, s1, (Po.split p1).mono fun r2 π2 F2 H2 t2 s2 p2 y hy => ?_⟩⟩
  unfold op2 at p2
  cases e1 : rdP π2 r1 with
  | none => rw [e1] at p2; exact p2.elim
  | some q1 =>
    cases e2 : rdP π2 r2 with
    | none => rw [e1, e2] at p2; exact p2.elim
    | some q2 =>
      rw [e1, e2] at p2
      obtain ⟨rv, e3, k⟩ := outR_post s2 p2
      refine hv F2 H2 q1 q2 x y rv Q s2.le ((hx.step t2).rb s2 e1) (hy.rb s2 e2) e3 fun v F3 H3 gr rn => ?_
      obtain ⟨k1, k2⟩ := k v F3 H3 gr rn
      exact k1 v (k2.base (t1.trans t2))
theorem p_bin {op : Operator} {r : R2} {o : P → P → Option Rv} (hop : OpR X (binaryOp op) r) (hv : OpV c r o) (ha : PE X a (tE c w f)) (hb : PE X b (tE c w g)) : PE X (.BinOp a op b pos) (tE c w (binF o f g)) :=
  pe_weak (pe_op hop ha hb) (bin_weak hv)
theorem p_cmp {op : CmpOp} {r : R2} {o : P → P → Option Rv} (hop : OpR X (compareOp op) r) (hv : OpV c r o) (ha : PE X a (tE c w f)) (hb : PE X b (tE c w g)) (hm : behindInMarks op b = false) : PE X (.Compare a [op] [b] pos) (tE c w (binF o f g)) :=
  pe_weak (pe_cmpR hop ha hb hm) (bin_weak hv)
theorem p_ix {r : R2} {o : P → P → Option Rv} (hop : IxR X r) (hv : OpV c r o) (ha : PE X a (tE c w f)) (hb : PE X b (tE c w g)) (hs : PlainIx b) : PE X (.Subscript a b pos) (tE c w (binF o f g)) :=
  pe_weak (pe_ix hop ha hb hs) (bin_weak hv)
theorem p_un {op : UnaryOp} {r : V → Hp → VK → Prop} {o : P → Option Rv} (hop : UnR X (unaryOp op) r) (hv : UnV c r o) (ha : PE X a (tE c w f)) : PE X (.UnaryOp op a pos) (tE c w (unF o f)) :=
  pe_weak (pe_un hop ha) fun σ H Q ⟨F, π, gg, s, po⟩ => by
    refine ⟨F, π, gg, s, (Po.split po).mono fun r1 π1 F1 H1 t1 s1 p1 x hx => ?_⟩
    unfold op1 at p1
    cases e1 : rdP π1 r1 with
    | none => rw [e1] at p1; exact p1.elim
    | some q1 =>
      rw [e1] at p1
      obtain ⟨rv, e3, k⟩ := outR_post s1 p1
      refine hv F1 H1 q1 x rv Q s1.le (hx.rb s1 e1) e3 fun v F3 H3 gr rn => ?_
      obtain ⟨k1, k2⟩ := k v F3 H3 gr rn
      exact k1 v (k2.base t1)
theorem pr_nil : PA X [] (tR c w nilF) := pa_weak pa_nil fun σ H Q ⟨F, π, gg, s, po⟩ => po F H .refl s [] rfl
theorem pr_cons (ha : PE X a (tE c w f)) (hr : PA X es (tR c w fs)) (hs : starEach (a :: es) X.env = (false, eval a X.env) :: starEach es X.env := by rfl) : PA X (a :: es) (tR c w (consF f fs)) :=
  pa_weak (pa_cons ha hr hs) fun σ H Q ⟨F, π, gg, s, po⟩ => by
    refine ⟨F, π, gg, s, (Po.split po).mono fun r1 π1 F1 H1 t1 s1 p1 x hx => ⟨F1, π1, w.mono _ _ t1.le gg, s1, (Po.split p1).mono fun rs π2 F2 H2 t2 s2 p2 xs hxs => ?_⟩⟩
    exact p2 F2 H2 .refl s2 (x :: xs) ⟨x, xs, rfl, hx.step t2, hxs.base t1⟩
theorem cal_weak {r : List V → Hp → VK → Prop} {o : List P → Option Rv} (hv : CalV c r o) : ∀ σ H Q, tE c w (calF o fs) σ H Q → tCB r (tR c w fs) σ H Q := fun σ H Q ⟨F, π, gg, s, po⟩ => by
  refine ⟨F, π, gg, s, (Po.split po).mono fun rs π1 F1 H1 t1 s1 p1 xs hx => ?_⟩
  unfold opN at p1
  cases e1 : rds π1 rs with
  | none => rw [e1] at p1; exact p1.elim
  | some qs =>
    rw [e1] at p1
    obtain ⟨rv, e3, k⟩ := outR_post s1 p1
    refine hv F1 H1 qs xs rv Q s1.le (hx.rbs s1 e1) e3 fun v F3 H3 gr rn => ?_
    obtain ⟨k1, k2⟩ := k v F3 H3 gr rn
    exact k1 v (k2.base t1)
end
end PV

namespace PV
open PySem L2

/-! ### statements -/
inductive Fl where
  | nx | bk | ct | rt (r : Rv)
def PoS {α : Type} (c : Ctx) (W : WX) (F : Hp) (π : En) (σ : L2.St) (H : Hp) (o : Out α) (K : α → En → Hp → L2.St → Hp → Prop) : Prop := match o with
  | .ok a π' => ∀ F' σ' H', Tr F π σ H F' π' σ' H' → SR c F' π' σ' H' → K a π' F' σ' H'
  | .exc C ps π' => ∀ F' σ' H' d, Tr F π σ H F' π' σ' H' → SR c F' π' σ' H' → XdOk c F' C ps d → W (.ref (c.cls C)) d σ' H'
  | .bad => False
/-- a result that is handed back -/
def RC (c : Ctx) (π0 : En) (σ0 : L2.St) (H0 F : Hp) (π : En) (σ : L2.St) (H : Hp) : Rv → V → Prop
  | .val p, v => Rp c F p v
  | .own o, v => ∃ a, v = .ref a ∧ F a = none ∧ ¬ Lent π σ a ∧ OwR c F H o a ∧ Fr0 π0 σ0 H0 a
def flK (c : Ctx) (D : Ends) (π0 : En) (σ0 : L2.St) (H0 : Hp) : Fl → En → Hp → L2.St → Hp → Prop
  | .nx, _, _, σ', H' => D.nx σ' H'
  | .bk, _, _, σ', H' => D.bk σ' H'
  | .ct, _, _, σ', H' => D.ct σ' H'
  | .rt r, π', F', σ', H' => ∀ v, RC c π0 σ0 H0 F' π' σ' H' r v → D.rt v H'
def tS (c : Ctx) (w : Ws) (f : M Fl) : TS := fun D σ H => ∃ F π, w.g F ∧ SR c F π σ H ∧ PoS c w.W F π σ H (f π) (flK c D π σ H)
section
variable {α β : Type} {c : Ctx} {W : WX} {F F1 F' H H1 H' : Hp} {π π1 π' : En} {σ σ1 σ' : L2.St} {o : Out α} {K K' : α → En → Hp → L2.St → Hp → Prop} {J : β → En → Hp → L2.St → Hp → Prop} {r : Rv} {v : V} {fl : Fl} {D : Ends}
theorem PoS.mono (h : PoS c W F π σ H o K) (k : ∀ a π' F' σ' H', Tr F π σ H F' π' σ' H' → SR c F' π' σ' H' → K a π' F' σ' H' → K' a π' F' σ' H') : PoS c W F π σ H o K' := by
  cases o with
  | ok a π' => exact fun F' σ' H' t s => k a π' F' σ' H' t s (h F' σ' H' t s)
  | exc C ps π' => exact h
  | bad => exact h
theorem PoS.from (h : PoS c W F π σ H o K) (t : Tr F π σ H F1 π1 σ1 H1) : PoS c W F1 π1 σ1 H1 o K := by
  cases o with
  | ok a π' => exact fun F' σ' H' t' s => h F' σ' H' (t.trans t') s
  | exc C ps π' => exact fun F' σ' H' d t' s => h F' σ' H' d (t.trans t') s
  | bad => exact h
/-- an expression, then a statement's part -/
theorem PoS.split {f : α → M β} (h : PoS c W F π σ H (o.bind f) J) : Po c W F π σ H o (fun a π1 F1 H1 => PoS c W F1 π1 σ H1 (f a π1) J) := by
  cases o with
  | ok a π' => exact fun F' H' t s => PoS.from h t
  | exc C ps π' => exact fun F' H' d t s => h F' σ H' d t s
  | bad => exact h
theorem PoS.splitS {f : α → M β} (h : PoS c W F π σ H (o.bind f) J) : PoS c W F π σ H o (fun a π1 F1 σ1 H1 => PoS c W F1 π1 σ1 H1 (f a π1) J) := by
  cases o with
  | ok a π' => exact fun F' σ' H' t s => PoS.from h t
  | exc C ps π' => exact h
  | bad => exact h
theorem RC.base {Fz : Hp} {π0 : En} {σ0 : L2.St} {H0 : Hp} (h : RC c π0 σ0 H0 F π σ H r v) (t : Tr Fz π' σ' H' F1 π0 σ0 H0) : RC c π' σ' H' F π σ H r v := by
  cases r with
  | val p => exact h
  | own o =>
    obtain ⟨a, e, h1, h2, h3, h4⟩ := h
    exact ⟨a, e, h1, h2, h3, h4.back t⟩
theorem flK.base {Fz : Hp} {π0 : En} {σ0 : L2.St} {H0 : Hp} (h : flK c D π' σ' H' fl π F σ H) (t : Tr Fz π' σ' H' F1 π0 σ0 H0) : flK c D π0 σ0 H0 fl π F σ H := by
  cases fl with
  | rt r => exact fun v q => h v (q.base t)
  | _ => exact h
end
def seqF (f g : M Fl) : M Fl := fun π => (f π).bind fun fl π1 => match fl with
  | .nx => g π1
  | fl => .ok fl π1
def skipF : M Fl := fun π => .ok .nx π
section
variable {X : Cx} {c : Ctx} {w : Ws} {st : Stmt} {rest body orelse : List Stmt} {e : Expr} {pos : Pos} {f g : M Fl} {fe : M Rs} {ft : M Bool}
theorem s_nil : PSs X [] (tS c w skipF) := pss_weak pss_nil fun D σ H ⟨F, π, gg, s, po⟩ => po F σ H .refl s
theorem s_cons (h1 : PS X st (tS c w f)) (h2 : PSs X rest (tS c w g)) : PSs X (st :: rest) (tS c w (seqF f g)) := pss_weak (pss_cons h1 h2) fun D σ H ⟨F, π, gg, s, po⟩ => by
  refine ⟨F, π, gg, s, (PoS.splitS po).mono fun fl π1 F1 σ1 H1 t s1 p1 => ?_⟩
  cases fl with
  | nx => exact ⟨F1, π1, w.mono _ _ t.le gg, s1, p1.mono fun fl π2 F2 σ2 H2 t2 s2 k => k.base t⟩
  | bk => exact p1 F1 σ1 H1 .refl s1
  | ct => exact p1 F1 σ1 H1 .refl s1
  | rt r => exact p1 F1 σ1 H1 .refl s1
theorem s_one (h1 : PS X st (tS c w f)) : PSs X [st] (tS c w f) := pss_weak (pss_one h1) fun D σ H h => h
theorem s_pass : PS X (.Pass pos) (tS c w skipF) := ps_weak ps_pass fun D σ H ⟨F, π, gg, s, po⟩ => po F σ H .refl s
/-! if -/
def ifF (ft : M Bool) (f g : M Fl) : M Fl := fun π => (ft π).bind fun b π1 => if b = true then f π1 else g π1
theorem s_if {cnd : Expr} (hc : PT X cnd (tT c w ft)) (ha : PSs X body (tS c w f)) (hb : PSs X orelse (tS c w g)) : PS X (.If cnd body orelse pos) (tS c w (ifF ft f g)) :=
  ps_weak (ps_if hc ha hb) fun D σ H ⟨F, π, gg, s, po⟩ => by
    refine ⟨F, π, gg, s, (PoS.split po).mono fun b π1 F1 H1 t s1 p1 => ?_⟩
    cases b with
    | true => exact ⟨F1, π1, w.mono _ _ t.le gg, s1, PoS.mono p1 fun fl π2 F2 σ2 H2 t2 s2 k => k.base t⟩
    | false => exact ⟨F1, π1, w.mono _ _ t.le gg, s1, PoS.mono p1 fun fl π2 F2 σ2 H2 t2 s2 k => k.base t⟩
/-! an expression dropped -/
def dropF (fe : M Rs) : M Fl := fun π => (fe π).bind fun _ π1 => .ok .nx π1
theorem s_expr (he : PE X e (tE c w fe)) (hs : swapsWith e none pos.line X.env = pure false := by rfl) : PS X (.Expr e pos) (tS c w (dropF fe)) :=
  ps_weak (ps_expr he hs) fun D σ H ⟨F, π, gg, s, po⟩ => ⟨F, π, gg, s, (PoS.split po).mono fun r π1 F1 H1 t s1 p1 v hr => p1 F1 σ H1 .refl s1⟩
/-! return -/
def retR (r : Rs) : M Fl := fun π => match r with
  | .val p => .ok (.rt (.val p)) π
  | .own o => .ok (.rt (.own o)) π
  | .bor i => match π[i]? with
    | some (.own o) => .ok (.rt (.own o)) π
    | some (.val p) => .ok (.rt (.val p)) π
    | _ => .bad
def retF (fe : M Rs) : M Fl := fun π => (fe π).bind retR
theorem lent_own {F H : Hp} {π : En} {σ : L2.St} {i : Nat} {o : O} {a : Addr} (s : SR c F π σ H) (h : π[i]? = some (.own o)) (e : σ[i]? = some (some (.ref a))) : ¬ Lent π σ a := fun ⟨j, o', h1, h2⟩ => by
  have := s.dj i j _ _ o o' a h rfl h1 rfl e h2
  subst this
  rw [h] at h1; cases h1
theorem s_ret (he : PE X e (tE c w fe)) : PS X (.Return (some e) pos) (tS c w (retF fe)) := ps_weak (ps_ret he) fun D σ H ⟨F, π, gg, s, po⟩ => by
  refine ⟨F, π, gg, s, ?_⟩
  unfold retF at po
  cases e0 : fe π with
  | bad => rw [e0] at po; exact po
  | exc C ps π1 => rw [e0] at po; exact fun F' H' d t s => po F' σ H' d t s
  | ok r π1 =>
    rw [e0] at po
    intro F1 H1 t s1 v hr
    cases r with
    | val p => exact po F1 σ H1 t s1 v hr
    | own o =>
      obtain ⟨a, e1, h1, h2, h3, h4⟩ := hr
      exact po F1 σ H1 t s1 v ⟨a, e1, h1, fun z => h2 z.own, h3, h4⟩
    | bor i =>
      have hr' : σ[i]? = some (some v) := hr
      simp only [Out.bind, retR] at po
      cases q : π1[i]? with
      | none => rw [q] at po; exact po.elim
      | some sl =>
        rw [q] at po
        cases sl with
        | no => exact po.elim
        | loan o => exact po.elim
        | val p =>
          obtain ⟨v', e1, h1⟩ := s1.vl i p q
          rw [hr'] at e1
          have e3 : v = v' := Option.some.inj (Option.some.inj e1)
          subst e3
          exact po F1 σ H1 t s1 v h1
        | own o =>
          obtain ⟨a, e1, h1, h2⟩ := s1.ow i _ o q rfl
          rw [hr'] at e1
          have e3 : v = .ref a := Option.some.inj (Option.some.inj e1)
          subst e3
          exact po F1 σ H1 t s1 _ ⟨a, rfl, h1, lent_own s1 q hr', h2, Fr0.back t (.inr ⟨i, _, o, q, rfl, hr'⟩)⟩
def retNF : M Fl := fun π => .ok (.rt (.val .non)) π
theorem s_retN : PS X (.Return none pos) (tS c w retNF) := ps_weak ps_retN fun D σ H ⟨F, π, gg, s, po⟩ => po F σ H .refl s .non (show Rp c F .non .non from mk_non)
end

/-! ### stores to slots -/
section
variable {c : Ctx} {F H : Hp} {π : En} {σ : L2.St} {i : Nat} {p : P} {v : V} {o : O} {a : Addr} {u : HO} {sl : Sl}
/-- slot i no longer matters: it gets the value x -/
theorem SR.set (s : SR c F π σ H) (hi : i < π.length) (hl : ∀ o, π[i]? ≠ some (.loan o)) (new : Sl) (x : Option V)
    (h1 : ∀ p, new = .val p → ∃ v, x = some v ∧ Rp c F p v) (h2 : ∀ o, new.ow = some o → ∃ a, x = some (.ref a) ∧ F a = none ∧ OwR c F H o a ∧ ¬ Own π σ a) (h3 : ∀ o, new ≠ .loan o) :
    SR c F (π.set i new) (σ.set i x) H ∧ ∀ F0 π0 σ0 H0, Tr F0 π0 σ0 H0 F π σ H → (∀ a, x = some (.ref a) → (∃ o, new.ow = some o) → Fr0 π0 σ0 H0 a) → Tr F0 π0 σ0 H0 F (π.set i new) (σ.set i x) H := by
  have hσ : i < σ.length := by rw [← s.len]; exact hi
  have gp : ∀ j, (π.set i new)[j]? = if j = i then some new else π[j]? := fun j => by
    by_cases z : j = i
    · subst z; rw [List.getElem?_set_self hi, if_pos rfl]
    · rw [List.getElem?_set_ne (Ne.symm z), if_neg z]
  have gs : ∀ j, (σ.set i x)[j]? = if j = i then some x else σ[j]? := fun j => by
    by_cases z : j = i
    · subst z; rw [List.getElem?_set_self hσ, if_pos rfl]
    · rw [List.getElem?_set_ne (Ne.symm z), if_neg z]
  refine ⟨⟨s.le, by simpa using s.len, fun j q e => ?_, fun j sl o e1 e2 => ?_, fun j k sl sl' o1 o2 b e1 e2 e3 e4 e5 e6 => ?_⟩, fun F0 π0 σ0 H0 t hf => ⟨t.le, t.keep, t.new, fun b ⟨j, sl, o, e1, e2, e3⟩ => ?_, fun j o e => ?_⟩⟩
  · rw [gp] at e; rw [gs]
    by_cases z : j = i
    · rw [if_pos z] at e ⊢
      obtain ⟨v, e1, h⟩ := h1 q (Option.some.inj e)
      exact ⟨v, by rw [e1], h⟩
    · rw [if_neg z] at e ⊢
      exact s.vl j q e
  · rw [gp] at e1; rw [gs]
    by_cases z : j = i
    · rw [if_pos z] at e1 ⊢
      cases e1
      obtain ⟨a, e3, h4, h5, _⟩ := h2 o e2
      exact ⟨a, by rw [e3], h4, h5⟩
    · rw [if_neg z] at e1 ⊢
      exact s.ow j sl o e1 e2
  · rw [gp] at e1 e3; rw [gs] at e5 e6
    by_cases z : j = i
    · by_cases z2 : k = i
      · exact z.trans z2.symm
      · rw [if_pos z] at e1 e5
        rw [if_neg z2] at e3 e6
        cases e1
        obtain ⟨a, e7, _, _, h8⟩ := h2 o1 e2
        cases e5
        cases e7
        exact absurd ⟨k, sl', o2, e3, e4, e6⟩ h8
    · by_cases z2 : k = i
      · rw [if_pos z2] at e3 e6
        rw [if_neg z] at e1 e5
        cases e3
        obtain ⟨a, e7, _, _, h8⟩ := h2 o2 e4
        cases e6
        cases e7
        exact absurd ⟨j, sl, o1, e1, e2, e5⟩ h8
      · rw [if_neg z] at e1 e5
        rw [if_neg z2] at e3 e6
        exact s.dj j k sl sl' o1 o2 b e1 e2 e3 e4 e5 e6
  · rw [gp] at e1; rw [gs] at e3
    by_cases z : j = i
    · rw [if_pos z] at e1 e3
      cases e1
      exact hf b (Option.some.inj e3) ⟨o, e2⟩
    · rw [if_neg z] at e1 e3
      exact t.own b ⟨j, sl, o, e1, e2, e3⟩
  · obtain ⟨h5, o', h6⟩ := t.ln j o e
    have ne : j ≠ i := fun z => hl o' (by rw [← z]; exact h6)
    rw [gs, gp, if_neg ne, if_neg ne]
    exact ⟨h5, o', h6⟩
/-- the object of slot i is written -/
def Sl.put (o : O) : Sl → Sl
  | .own _ => .own o
  | .loan _ => .loan o
  | s => s
theorem SR.put {o' : O} (s : SR c F π σ H) (hi : π[i]? = some sl) (ho : sl.ow = some o) (hσ : σ[i]? = some (some (.ref a))) (hnew : OwR c F (L2.upd H a u) o' a) :
    SR c F (π.set i (sl.put o')) σ (L2.upd H a u) ∧ Tr F π σ H F (π.set i (sl.put o')) σ (L2.upd H a u) := by
  obtain ⟨b, e1, hF, hO⟩ := s.ow i _ o hi ho
  rw [hσ] at e1
  have e2 : a = b := by injection Option.some.inj (Option.some.inj e1)
  subst e2
  have hlt : i < π.length := (List.getElem?_eq_some_iff.mp hi).1
  have hput : (sl.put o').ow = some o' := by cases sl <;> first | rfl | cases ho
  have gp : ∀ j, (π.set i (sl.put o'))[j]? = if j = i then some (sl.put o') else π[j]? := fun j => by
    by_cases z : j = i
    · subst z; rw [List.getElem?_set_self hlt, if_pos rfl]
    · rw [List.getElem?_set_ne (Ne.symm z), if_neg z]
  have back : ∀ (j : Nat) (sl2 : Sl) (o2 : O), (π.set i (sl.put o'))[j]? = some sl2 → sl2.ow = some o2 → ∃ sl3 o3, π[j]? = some sl3 ∧ sl3.ow = some o3 := fun j sl2 o2 e1 e2 => by
    rw [gp] at e1
    by_cases z : j = i
    · subst z; exact ⟨sl, o, hi, ho⟩
    · rw [if_neg z] at e1; exact ⟨sl2, o2, e1, e2⟩
  refine ⟨⟨s.le.updR _ hF, by simpa using s.len, fun j q e => ?_, fun j sl2 o2 e1 e2 => ?_, fun j k sl1 sl2 o1 o2 b e1 e2 e3 e4 e5 e6 => ?_⟩, ⟨Le.refl F, fun b x e n => ?_, fun b h => .inl h, fun b ⟨j, sl2, o2, e1, e2, e3⟩ => ?_, fun j o2 e => ?_⟩⟩
  · rw [gp] at e
    by_cases z : j = i
    · rw [if_pos z] at e
      rw [Option.some.inj e] at hput
      cases hput
    · rw [if_neg z] at e
      exact s.vl j q e
  · rw [gp] at e1
    by_cases z : j = i
    · rw [if_pos z] at e1
      cases e1
      rw [hput] at e2
      cases e2
      subst z
      exact ⟨a, hσ, hF, hnew⟩
    · rw [if_neg z] at e1
      obtain ⟨b, e3, h1, h2⟩ := s.ow j sl2 o2 e1 e2
      have nb : b ≠ a := fun q => z (s.dj j i _ _ o2 o b e1 e2 hi ho e3 (by rw [q]; exact hσ))
      exact ⟨b, e3, h1, h2.step (Le.refl F) fun x q => by rw [upd_ne nb]; exact q⟩
  · obtain ⟨s3, o3, f1, f2⟩ := back j sl1 o1 e1 e2
    obtain ⟨s4, o4, f3, f4⟩ := back k sl2 o2 e3 e4
    exact s.dj j k s3 s4 o3 o4 b f1 f2 f3 f4 e5 e6
  · have nb : b ≠ a := fun q => n ⟨i, sl, o, hi, ho, by rw [q]; exact hσ⟩
    rw [upd_ne nb]; exact e
  · obtain ⟨s3, o3, f1, f2⟩ := back j sl2 o2 e1 e2
    exact .inr ⟨j, s3, o3, f1, f2, e3⟩
  · refine ⟨rfl, ?_⟩
    rw [gp]
    by_cases z : j = i
    · subst z
      rw [hi] at e
      cases e
      exact ⟨o', by rw [if_pos rfl]; rfl⟩
    · exact ⟨o2, by rw [if_neg z]; exact e⟩
end
def setR (i : Nat) (r : Rs) : M Fl := fun π => match π[i]? with
  | none => .bad
  | some (.loan _) => .bad
  | some _ => match r with
    | .val p => .ok .nx (π.set i (.val p))
    | .own o => .ok .nx (π.set i (.own o))
    | .bor _ => .bad
def setF (i : Nat) (fe : M Rs) : M Fl := fun π => (fe π).bind (setR i)
section
variable {X : Cx} {c : Ctx} {w : Ws} {e : Expr} {pos pos' : Pos} {fe : M Rs}
theorem set_post {W : WX} {F H F0 H0 : Hp} {π π0 : En} {σ : L2.St} {i : Nat} {r : Rs} {v : V} {K : Fl → En → Hp → L2.St → Hp → Prop} (s : SR c F π σ H) (hr : RR c π0 H0 F π σ H r v) (t : Tr F0 π0 σ H0 F π σ H)
    (po : PoS c W F0 π0 σ H0 (setR i r π) K) : ∃ π', K .nx π' F (σ.set i (some v)) H := by
  simp only [setR] at po
  cases q : π[i]? with
  | none => rw [q] at po; exact po.elim
  | some sl =>
    rw [q] at po
    have hi : i < π.length := (List.getElem?_eq_some_iff.mp q).1
    have main : (∀ o, sl ≠ .loan o) → PoS c W F0 π0 σ H0 (match r with | .val p => .ok .nx (π.set i (.val p)) | .own o => .ok .nx (π.set i (.own o)) | .bor _ => Out.bad) K → ∃ π', K .nx π' F (σ.set i (some v)) H := fun hn po => by
      have hl : ∀ o, π[i]? ≠ some (.loan o) := fun o z => by rw [q] at z; exact hn o (Option.some.inj z)
      cases r with
      | val p =>
        obtain ⟨s2, t2⟩ := s.set hi hl (.val p) (some v) (fun p' e => by cases e; exact ⟨v, rfl, hr⟩) (fun o e => by cases e) (fun o e => by cases e)
        exact ⟨_, po F _ H (t2 _ _ _ _ t fun a e ⟨o, h⟩ => by cases h) s2⟩
      | own o =>
        obtain ⟨a, rfl, h1, h2, h3, h4⟩ := hr
        obtain ⟨s2, t2⟩ := s.set hi hl (.own o) (some (.ref a)) (fun p' e => by cases e) (fun o e => by cases e; exact ⟨a, rfl, h1, h3, h2⟩) (fun o e => by cases e)
        exact ⟨_, po F _ H (t2 _ _ _ _ t fun b e _ => by cases e; exact h4) s2⟩
      | bor j => exact po.elim
    cases sl with
    | loan o => exact po.elim
    | no => exact main (fun o z => by cases z) po
    | val p => exact main (fun o z => by cases z) po
    | own o => exact main (fun o z => by cases z) po
theorem s_set {i : Nat} {x : Str} (hN : X.N.Nodup) (hi : X.N[i]? = some x) (hx : Loc X.env.scope x) (he : PE X e (tE c w fe)) (hs : swapsWith e (some (.Name x pos')) pos.line X.env = pure false := by rfl)
    (hf : X.fn x = true ∨ X.env.scope.names.lookup x = some .local := by first | exact .inl rfl | exact .inr rfl | assumption) : PS X (.Assign [.Name x pos'] e pos) (tS c w (setF i fe)) :=
  ps_weak (ps_set hN hi hx he hs hf) fun D σ H ⟨F, π, gg, s, po⟩ => by
    refine ⟨F, π, gg, s, ?_⟩
    unfold setF at po
    cases e0 : fe π with
    | bad => rw [e0] at po; exact po
    | exc C ps π1 => rw [e0] at po; exact fun F' H' d t s => po F' σ H' d t s
    | ok r π1 =>
      rw [e0] at po
      intro F1 H1 t s1 v hr
      obtain ⟨π', k⟩ := set_post s1 hr t po
      exact k
end
end PV

namespace PV
open PySem L2 PyProof.Rows

/-! ### defs -/
/-- the arguments behind a call: what was lent, as it now is -/
def backA (args : List Sl) (π' : En) : List Sl := args.mapIdx fun i a => match a with
  | .loan o => (π'[i]?).getD (.loan o)
  | a => a
def fnF (n : Nat) (body : M Fl) (args : List Sl) : Out Rv := match body (args ++ List.replicate n .no) with
  | .ok (.rt r) π' => .ok r (backA args π')
  | .ok .nx π' => .ok (.val .non) (backA args π')
  | .ok _ _ => .bad
  | .exc C ps π' => .exc C ps (backA args π')
  | .bad => .bad
abbrev FN := List Sl → Out Rv
def PoF (c : Ctx) (F : Hp) (πs : List Sl) (vs : List V) (H : Hp) (o : Out Rv) (Q : VK) (E : XK) : Prop := match o with
  | .ok r πs' => ∀ v F' H', Tr F πs (vs.map some) H F' πs' (vs.map some) H' → SR c F' πs' (vs.map some) H' → RC c πs (vs.map some) H F' πs' (vs.map some) H' r v → Q v H'
  | .exc C ps πs' => ∀ F' H' d, Tr F πs (vs.map some) H F' πs' (vs.map some) H' → SR c F' πs' (vs.map some) H' → XdOk c F' C ps d → E (.ref (c.cls C)) d H'
  | .bad => False
def noOwn (πs : List Sl) : Prop := ∀ (i : Nat) (o : O), πs[i]? ≠ some (.own o)
def spF (c : Ctx) (n : Nat) (Fn : FN) : Sp := fun vs H Q E => ∃ F πs, πs.length = n ∧ noOwn πs ∧ SR c F πs (vs.map some) H ∧ PoF c F πs vs H (Fn πs) Q E

section
variable {c : Ctx} {F F' H H' : Hp} {π π' : En} {σ σ' : L2.St} {vs : List V} {n : Nat} {a : Addr}
theorem get_ext {α : Type} {l : List α} {m : Nat} {z : α} {i : Nat} {x : α} (h : (l ++ List.replicate m z)[i]? = some x) : l[i]? = some x ∨ x = z := by
  by_cases hi : i < l.length
  · rw [List.getElem?_append_left hi] at h; exact .inl h
  · rw [List.getElem?_append_right (by omega), List.getElem?_replicate] at h
    split at h
    · exact .inr (Option.some.inj h).symm
    · cases h
theorem get_ext' {α : Type} {l : List α} {m : Nat} {z : α} {i : Nat} {x : α} (h : l[i]? = some x) : (l ++ List.replicate m z)[i]? = some x := by
  rw [List.getElem?_append_left (List.getElem?_eq_some_iff.mp h).1]; exact h
theorem own_ext : Own (π ++ List.replicate n .no) (σ ++ List.replicate n none) a ↔ Own π σ a := by
  constructor
  · rintro ⟨i, s, o, e1, e2, e3⟩
    rcases get_ext e1 with h | h
    · rcases get_ext e3 with h3 | h3
      · exact ⟨i, s, o, h, e2, h3⟩
      · cases h3
    · subst h; cases e2
  · rintro ⟨i, s, o, e1, e2, e3⟩
    exact ⟨i, s, o, get_ext' e1, e2, get_ext' e3⟩
theorem SR.ext (s : SR c F π σ H) (n : Nat) : SR c F (π ++ List.replicate n .no) (σ ++ List.replicate n none) H where
  le := s.le
  len := by simp [s.len]
  vl := fun i p e => by
    rcases get_ext e with h | h
    · obtain ⟨v, e1, h1⟩ := s.vl i p h
      exact ⟨v, get_ext' e1, h1⟩
    · cases h
  ow := fun i sl o e1 e2 => by
    rcases get_ext e1 with h | h
    · obtain ⟨b, e3, h1⟩ := s.ow i sl o h e2
      exact ⟨b, get_ext' e3, h1⟩
    · subst h; cases e2
  dj := fun i j s1 s2 o1 o2 b e1 e2 e3 e4 e5 e6 => by
    rcases get_ext e1 with h1 | h1
    · rcases get_ext e3 with h3 | h3
      · rcases get_ext e5 with h5 | h5
        · rcases get_ext e6 with h6 | h6
          · exact s.dj i j s1 s2 o1 o2 b h1 e2 h3 e4 h5 h6
          · cases h6
        · cases h5
      · subst h3; cases e4
    · subst h1; cases e2
theorem back_get {args : List Sl} {i : Nat} : (backA args π')[i]? = (args[i]?).map fun a => match a with
    | .loan o => (π'[i]?).getD (.loan o)
    | a => a := by
  unfold backA
  rw [List.getElem?_mapIdx]
/-- what is true behind a def's body, of its arguments -/
theorem back_ok {πs : List Sl} (hno : noOwn πs) (s : SR c F πs σ H) (t : Tr F (πs ++ List.replicate n .no) (σ ++ List.replicate n none) H F' π' σ' H') (s' : SR c F' π' σ' H') :
    Tr F πs σ H F' (backA πs π') σ H' ∧ SR c F' (backA πs π') σ H' ∧ (∀ a, Lent (backA πs π') σ a → Lent π' σ' a) := by
  have lt : ∀ (i : Nat) (sl : Sl) (o : O), (backA πs π')[i]? = some sl → sl.ow = some o → ∃ o0, πs[i]? = some (.loan o0) ∧ sl = .loan o ∧ π'[i]? = some (.loan o) ∧ σ'[i]? = σ[i]? := fun i sl o e1 e2 => by
    rw [back_get] at e1
    cases q : πs[i]? with
    | none => rw [q] at e1; cases e1
    | some a =>
      rw [q] at e1
      cases a with
      | no => cases e1; cases e2
      | val p => cases e1; cases e2
      | own o' => exact absurd q (hno i o')
      | loan o' =>
        obtain ⟨e3, o2, e4⟩ := t.ln i o' (get_ext' q)
        have e5 : (π'[i]?).getD (Sl.loan o') = sl := Option.some.inj e1
        rw [e4] at e5
        have e6 : Sl.loan o2 = sl := e5
        subst e6
        have e7 : o2 = o := Option.some.inj e2
        subst e7
        refine ⟨o', rfl, rfl, e4, ?_⟩
        rw [e3]
        exact List.getElem?_append_left (by rw [← s.len]; exact (List.getElem?_eq_some_iff.mp q).1)
  have ownb : ∀ a, Own (backA πs π') σ a → Own π' σ' a := fun a ⟨i, sl, o, e1, e2, e3⟩ => by
    obtain ⟨o0, h1, h2, h3, h4⟩ := lt i sl o e1 e2
    exact ⟨i, _, o, h3, rfl, by rw [h4]; exact e3⟩
  refine ⟨⟨t.le, fun a o h k => t.keep a o h fun z => k (own_ext.mp z), fun a h => (t.new a h).imp id (Or.imp id own_ext.mp), fun a h => (t.own a (ownb a h)).imp id own_ext.mp, fun i o e => ⟨rfl, ?_⟩⟩,
    ⟨s'.le, by unfold backA; rw [List.length_mapIdx]; exact s.len, fun i p e => ?_, fun i sl o e1 e2 => ?_, fun i j s1 s2 o1 o2 b e1 e2 e3 e4 e5 e6 => ?_⟩, fun a ⟨i, o, e1, e2⟩ => ?_⟩
  · obtain ⟨_, o2, e4⟩ := t.ln i o (get_ext' e)
    exact ⟨o2, by rw [back_get, e]; show some ((π'[i]?).getD _) = _; rw [e4] <;> rfl⟩
  · rw [back_get] at e
    cases q : πs[i]? with
    | none => rw [q] at e; cases e
    | some a =>
      rw [q] at e
      cases a with
      | no => cases e
      | own o' => cases e
      | loan o' =>
        obtain ⟨_, o2, e4⟩ := t.ln i o' (get_ext' q)
        have e5 : (π'[i]?).getD (Sl.loan o') = .val p := Option.some.inj e
        rw [e4] at e5
        cases e5
      | val p' =>
        cases e
        obtain ⟨v, e1, h1⟩ := s.vl i p q
        exact ⟨v, e1, Rp.mono t.le _ _ h1⟩
  · obtain ⟨o0, h1, h2, h3, h4⟩ := lt i sl o e1 e2
    obtain ⟨b, e3, h5, h6⟩ := s'.ow i _ o h3 rfl
    exact ⟨b, by rw [← h4]; exact e3, h5, h6⟩
  · obtain ⟨o3, h1, _⟩ := lt i s1 o1 e1 e2
    obtain ⟨o4, h2, _⟩ := lt j s2 o2 e3 e4
    exact s.dj i j _ _ o3 o4 b h1 rfl h2 rfl e5 e6
  · obtain ⟨o0, h1, h2, h3, h4⟩ := lt i _ o e1 rfl
    exact ⟨i, o, h3, by rw [h4]; exact e2⟩
end
/-- nothing is known of F besides -/
def wE (E : XK) : Ws := ⟨fun cls d _ H => E cls d H, fun _ => True, fun _ _ _ h => h⟩
section
variable {PP : Program} {ww : World} {K : PySem.W.Frag} {mg : Str → Option Value} {base : Heap} {c : Ctx}
theorem fn_ok {x qual : Str} {st : Stmt} {f : Addr} {fd : FuncData} {N ps : List Str} {k : Nat} {body : M Fl} (Fd : Fun K x qual st f fd) (S : FnScope N ps (defScope st))
    (hb : ∀ (cdv : Value) (A : Around) (outer : List Env) (s : Shared) (H : Hp) (E : XK), Room k (A.deeper (envOfC qual (defScope st) s.heap.objs.size f cdv)) →
      PSs (cxOf (L2.CX PP ww) PP ww K mg base N qual (defScope st) f cdv A outer s H E) (defBody st) (tS c (wE E) body)) :
    FnOk PP ww K mg base (L2.CX PP ww) (k + 1) f fd ps (spF c ps.length (fnF (N.length - ps.length) body)) := by
  refine Fd.okX S (fun vs H Q E h => ?_) (fun cdv A outer s H vs Q E hr h => ⟨_, hb cdv A outer s H E hr, ?_⟩)
  · obtain ⟨F, πs, hl, _, sr, _⟩ := h
    have := sr.len
    simp at this
    omega
  · obtain ⟨F, πs, hl, hno, sr, po⟩ := h
    have hvl : vs.length = ps.length := by
      have := sr.len
      simp at this
      omega
    have hst : L2.start N vs = vs.map some ++ List.replicate (N.length - ps.length) none := by unfold L2.start; rw [hvl]
    rw [hst]
    refine ⟨F, πs ++ List.replicate (N.length - ps.length) .no, trivial, sr.ext _, ?_⟩
    unfold fnF at po
    cases e : body (πs ++ List.replicate (N.length - ps.length) .no) with
    | bad => rw [e] at po; exact po
    | exc C qs π' =>
      rw [e] at po
      intro F' σ' H' d t s' xd
      obtain ⟨h1, h2, _⟩ := back_ok hno sr t s'
      exact po F' H' d h1 h2 xd
    | ok fl π' =>
      rw [e] at po
      cases fl with
      | bk => exact po.elim
      | ct => exact po.elim
      | nx =>
        intro F' σ' H' t s'
        obtain ⟨h1, h2, _⟩ := back_ok hno sr t s'
        exact po .non F' H' h1 h2 (show Rp c F' .non .non from mk_non)
      | rt r =>
        intro F' σ' H' t s' v hr'
        obtain ⟨h1, h2, h3⟩ := back_ok hno sr t s'
        refine po v F' H' h1 h2 ?_
        cases r with
        | val p => exact hr'
        | own o =>
          obtain ⟨a, e1, q1, q2, q3, q4⟩ := hr'
          exact ⟨a, e1, q1, fun z => q2 (h3 a z), q3, q4.imp id own_ext.mp⟩
end

/-! ### calls -/
def loadR (π : En) : Rs → Option Sl
  | .val p => some (.val p)
  | .own _ => none
  | .bor i => match π[i]? with
    | some (.own o) => some (.loan o)
    | some (.loan o) => some (.loan o)
    | some (.val p) => some (.val p)
    | _ => none
def loads (π : En) : List Rs → Option (List Sl)
  | [] => some []
  | r :: rs => match loadR π r, loads π rs with
    | some s, some ss => some (s :: ss)
    | _, _ => none
def borIx : Rs → Option Nat
  | .bor i => some i
  | _ => none
def findL (j : Nat) : List Rs → List Sl → Option O
  | .bor i :: rs, .loan o :: as => if i = j then some o else findL j rs as
  | _ :: rs, _ :: as => findL j rs as
  | _, _ => none
def storeA (π : En) (rs : List Rs) (as : List Sl) : En := π.mapIdx fun j sl => match findL j rs as with
  | some o => sl.put o
  | none => sl
def callR (Fn : FN) (rs : List Rs) : M Rs := fun π => match loads π rs with
  | none => .bad
  | some as => if (rs.filterMap borIx).Nodup then (match Fn as with
      | .ok r as' => .ok r.rs (storeA π rs as')
      | .exc C ps as' => .exc C ps (storeA π rs as')
      | .bad => .bad) else .bad
def callF (Fn : FN) (fa : M (List Rs)) : M Rs := fun π => (fa π).bind (callR Fn)
section
variable {c : Ctx} {F F' F0 H H' H0 : Hp} {π π' π0 : En} {σ σ' : L2.St} {rs : List Rs} {vs : List V} {as as' : List Sl} {n : Nat} {a : Addr} {W : WX}
/-- each argument, its slot and its value -/
theorem load_at : ∀ {rs : List Rs} {vs : List V} {as : List Sl}, RRs c π0 H0 F π σ H rs vs → loads π rs = some as → ∀ (k : Nat) (sl : Sl), as[k]? = some sl → ∃ r v, rs[k]? = some r ∧ vs[k]? = some v ∧ RR c π0 H0 F π σ H r v ∧ loadR π r = some sl
  | [], _, _, h, e, k, sl, hk => by cases e; simp at hk
  | r :: rs, _, _, h, e, k, sl, hk => by
    obtain ⟨v, l, rfl, h1, h2⟩ := h
    unfold loads at e
    cases e1 : loadR π r with
    | none => rw [e1] at e; cases e
    | some s =>
      cases e2 : loads π rs with
      | none => rw [e1, e2] at e; cases e
      | some ss =>
        rw [e1, e2] at e
        cases e
        cases k with
        | zero => simp at hk; subst hk; exact ⟨r, v, rfl, rfl, h1, e1⟩
        | succ k =>
          obtain ⟨r', v', q1, q2, q3, q4⟩ := load_at h2 e2 k sl (by simpa using hk)
          exact ⟨r', v', by simpa using q1, by simpa using q2, q3, q4⟩
theorem load_len : ∀ {rs : List Rs} {as : List Sl}, loads π rs = some as → as.length = rs.length
  | [], _, e => by cases e; rfl
  | r :: rs, _, e => by
    unfold loads at e
    cases e1 : loadR π r with
    | none => rw [e1] at e; cases e
    | some s =>
      cases e2 : loads π rs with
      | none => rw [e1, e2] at e; cases e
      | some ss =>
        rw [e1, e2] at e
        cases e
        simp [load_len e2]
theorem rrs_len : ∀ {rs : List Rs} {vs : List V}, RRs c π0 H0 F π σ H rs vs → vs.length = rs.length
  | [], _, h => by rw [show _ = [] from h]; rfl
  | r :: rs, _, h => by
    obtain ⟨v, l, rfl, _, h2⟩ := h
    simp [rrs_len h2]
theorem loadR_loan {r : Rs} {o : O} (h : loadR π r = some (.loan o)) : ∃ i sl, r = .bor i ∧ π[i]? = some sl ∧ sl.ow = some o := by
  cases r with
  | val p => cases h
  | own o => cases h
  | bor i =>
    simp only [loadR] at h
    cases q : π[i]? with
    | none => rw [q] at h; cases h
    | some sl =>
      rw [q] at h
      cases sl with
      | no => cases h
      | val p => cases h
      | own o' => cases h; exact ⟨i, _, rfl, q, rfl⟩
      | loan o' => cases h; exact ⟨i, _, rfl, q, rfl⟩
theorem load_noOwn (h : RRs c π0 H0 F π σ H rs vs) (e : loads π rs = some as) : noOwn as := fun k o q => by
  obtain ⟨r, v, _, _, _, h4⟩ := load_at h e k _ q
  cases r with
  | val p => cases h4
  | own o => cases h4
  | bor i =>
    simp only [loadR] at h4
    cases q : π[i]? with
    | none => rw [q] at h4; cases h4
    | some sl =>
      rw [q] at h4
      cases sl <;> cases h4
theorem nodup_bor : ∀ {rs : List Rs}, (rs.filterMap borIx).Nodup → ∀ (k k' i : Nat), rs[k]? = some (.bor i) → rs[k']? = some (.bor i) → k = k'
  | [], _, k, k', i, h, _ => by simp at h
  | r :: rs, hn, k, k', i, h1, h2 => by
    have mem : ∀ {m : Nat}, rs[m]? = some (.bor i) → i ∈ rs.filterMap borIx := fun {m} q => List.mem_filterMap.mpr ⟨_, List.mem_of_getElem? q, rfl⟩
    cases k with
    | zero =>
      cases k' with
      | zero => rfl
      | succ k' =>
        simp at h1; subst h1
        rw [List.filterMap_cons_some (show borIx (.bor i) = some i from rfl), List.nodup_cons] at hn
        exact absurd (mem (by simpa using h2)) hn.1
    | succ k =>
      cases k' with
      | zero =>
        simp at h2; subst h2
        rw [List.filterMap_cons_some (show borIx (.bor i) = some i from rfl), List.nodup_cons] at hn
        exact absurd (mem (by simpa using h1)) hn.1
      | succ k' =>
        have hn' : (rs.filterMap borIx).Nodup := by
          cases e : borIx r with
          | none => rw [List.filterMap_cons_none e] at hn; exact hn
          | some x => rw [List.filterMap_cons_some e, List.nodup_cons] at hn; exact hn.2
        rw [nodup_bor hn' k k' i (by simpa using h1) (by simpa using h2)]
theorem load_sr (s : SR c F π σ H) (h : RRs c π0 H0 F π σ H rs vs) (e : loads π rs = some as) (hn : (rs.filterMap borIx).Nodup) : SR c F as (vs.map some) H ∧ ∀ a, Own as (vs.map some) a → Own π σ a := by
  have ln : ∀ (k : Nat) (sl : Sl) (o : O), as[k]? = some sl → sl.ow = some o → ∃ i sl' v, sl = .loan o ∧ rs[k]? = some (.bor i) ∧ π[i]? = some sl' ∧ sl'.ow = some o ∧ vs[k]? = some v ∧ σ[i]? = some (some v) := fun k sl o e1 e2 => by
    obtain ⟨r, v, q1, q2, q3, q4⟩ := load_at h e k sl e1
    cases sl with
    | no => cases e2
    | val p => cases e2
    | own o' => exact absurd e1 (load_noOwn h e k o')
    | loan o' =>
      cases e2
      obtain ⟨i, sl', rfl, q5, q6⟩ := loadR_loan q4
      exact ⟨i, sl', v, rfl, q1, q5, q6, q2, q3⟩
  refine ⟨⟨s.le, by simp [load_len e, rrs_len h], fun k p e1 => ?_, fun k sl o e1 e2 => ?_, fun k k' s1 s2 o1 o2 b e1 e2 e3 e4 e5 e6 => ?_⟩, fun b ⟨k, sl, o, e1, e2, e3⟩ => ?_⟩
  · obtain ⟨r, v, q1, q2, q3, q4⟩ := load_at h e k _ e1
    refine ⟨v, by simp [q2], ?_⟩
    cases r with
    | val p' => cases q4; exact q3
    | own o => cases q4
    | bor i =>
      simp only [loadR] at q4
      have q3' : σ[i]? = some (some v) := q3
      cases q : π[i]? with
      | none => rw [q] at q4; cases q4
      | some sl =>
        rw [q] at q4
        cases sl with
        | no => cases q4
        | own o' => cases q4
        | loan o' => cases q4
        | val p' =>
          cases q4
          obtain ⟨v', e5, h5⟩ := s.vl i p q
          rw [q3'] at e5
          cases e5
          exact h5
  · obtain ⟨i, sl', v, _, q1, q2, q3, q4, q5⟩ := ln k sl o e1 e2
    obtain ⟨b, e3, h1, h2⟩ := s.ow i sl' o q2 q3
    rw [q5] at e3
    cases e3
    exact ⟨b, by simp [q4], h1, h2⟩
  · obtain ⟨i, sl', v, _, q1, q2, q3, q4, q5⟩ := ln k s1 o1 e1 e2
    obtain ⟨j, sl2, v2, _, p1, p2, p3, p4, p5⟩ := ln k' s2 o2 e3 e4
    have r1 : v = .ref b := by simp [q4] at e5; exact e5
    have r2 : v2 = .ref b := by simp [p4] at e6; exact e6
    subst r1 r2
    have := s.dj i j _ _ o1 o2 b q2 q3 p2 p3 q5 p5
    subst this
    exact nodup_bor hn k k' i q1 p1
  · obtain ⟨i, sl', v, _, q1, q2, q3, q4, q5⟩ := ln k sl o e1 e2
    have r1 : v = .ref b := by simp [q4] at e3; exact e3
    subst r1
    exact ⟨i, sl', o, q2, q3, q5⟩
theorem findL_some : ∀ {rs : List Rs} {as : List Sl} {j : Nat} {o : O}, findL j rs as = some o → ∃ k : Nat, rs[k]? = some (Rs.bor j) ∧ as[k]? = some (Sl.loan o)
  | [], _, _, _, h => by simp [findL] at h
  | r :: _, [], _, _, h => by cases r <;> simp [findL] at h
  | r :: rs, a :: as, j, o, h => by
    have up : findL j rs as = some o → ∃ k : Nat, (r :: rs)[k]? = some (Rs.bor j) ∧ (a :: as)[k]? = some (Sl.loan o) := fun h => by
      obtain ⟨k, h1, h2⟩ := findL_some h
      exact ⟨k + 1, by simpa using h1, by simpa using h2⟩
    cases r with
    | val p => exact up h
    | own o' => exact up h
    | bor i =>
      cases a with
      | no => exact up h
      | val p => exact up h
      | own o' => exact up h
      | loan o' =>
        unfold findL at h
        by_cases z : i = j
        · rw [if_pos z] at h
          subst z
          exact ⟨0, rfl, by rw [Option.some.inj h]; rfl⟩
        · rw [if_neg z] at h; exact up h
theorem findL_none : ∀ {rs : List Rs} {as : List Sl} {j : Nat}, findL j rs as = none → ∀ (k : Nat) (o : O), rs[k]? = some (.bor j) → as[k]? ≠ some (.loan o)
  | [], _, _, _, k, o, h1 => by simp at h1
  | _ :: _, [], _, _, k, o, h1 => by simp
  | r :: rs, a :: as, j, h, k, o, h1 => by
    have up : findL j rs as = none → k ≠ 0 → (a :: as)[k]? ≠ some (.loan o) := fun h hk => by
      cases k with
      | zero => exact absurd rfl hk
      | succ k =>
        have := findL_none h k o (by simpa using h1)
        simpa using this
    cases k with
    | zero =>
      simp at h1; subst h1
      cases a with
      | no => simp
      | val p => simp
      | own o' => simp
      | loan o' => unfold findL at h; rw [if_pos rfl] at h; cases h
    | succ k =>
      refine up ?_ (Nat.succ_ne_zero k)
      cases r with
      | val p => exact h
      | own o' => exact h
      | bor i =>
        cases a with
        | no => exact h
        | val p => exact h
        | own o' => exact h
        | loan o' =>
          unfold findL at h
          by_cases z : i = j
          · rw [if_pos z] at h; cases h
          · rw [if_neg z] at h; exact h
theorem store_get {j : Nat} : (storeA π rs as)[j]? = (π[j]?).map fun sl => match findL j rs as with
    | some o => sl.put o
    | none => sl := by
  unfold storeA
  rw [List.getElem?_mapIdx]
theorem put_ow {sl : Sl} {o : O} : (sl.put o).ow = sl.ow.map fun _ => o := by cases sl <;> rfl
/-- behind the call: the caller's slots -/
theorem store_ok (s : SR c F π σ H) (h : RRs c π0 H0 F π σ H rs vs) (e : loads π rs = some as) (hn : (rs.filterMap borIx).Nodup)
    (t : Tr F as (vs.map some) H F' as' (vs.map some) H') (s' : SR c F' as' (vs.map some) H') :
    SR c F' (storeA π rs as') σ H' ∧ Tr F π σ H F' (storeA π rs as') σ H' ∧ (∀ r v, RC c as (vs.map some) H F' as' (vs.map some) H' r v → RR c π H F' (storeA π rs as') σ H' r.rs v) := by
  obtain ⟨sa, oa⟩ := load_sr s h e hn
  have lift : ∀ (j : Nat) (sl : Sl) (o : O), (storeA π rs as')[j]? = some sl → sl.ow = some o → ∃ sl1 o1, π[j]? = some sl1 ∧ sl1.ow = some o1 ∧ (match findL j rs as' with | some o2 => o = o2 | none => o = o1) := fun j sl o e1 e2 => by
    rw [store_get] at e1
    cases q : π[j]? with
    | none => rw [q] at e1; cases e1
    | some sl1 =>
      rw [q] at e1
      cases f : findL j rs as' with
      | none =>
        rw [f] at e1
        cases e1
        exact ⟨_, o, rfl, e2, rfl⟩
      | some o2 =>
        rw [f] at e1
        have e3 : sl1.put o2 = sl := Option.some.inj e1
        subst e3
        rw [put_ow] at e2
        cases g : sl1.ow with
        | none => rw [g] at e2; cases e2
        | some o1 => rw [g] at e2; exact ⟨sl1, o1, rfl, g, (Option.some.inj e2).symm⟩
  -- whom the call owned
  have who : ∀ (b : Addr) (j : Nat) (sl1 : Sl) (o1 : O), π[j]? = some sl1 → sl1.ow = some o1 → σ[j]? = some (some (.ref b)) → Own as (vs.map some) b → findL j rs as' ≠ none := fun b j sl1 o1 e1 e2 e3 ⟨k, sl, o, q1, q2, q3⟩ z => by
    obtain ⟨r, v, p1, p2, p3, p4⟩ := load_at h e k sl q1
    cases sl with
    | no => cases q2
    | val p => cases q2
    | own o' => exact load_noOwn h e k o' q1
    | loan o' =>
      obtain ⟨i, sl', rfl, p5, p6⟩ := loadR_loan p4
      have p3' : σ[i]? = some (some v) := p3
      have r1 : v = .ref b := by simp [p2] at q3; exact q3
      subst r1
      have := s.dj i j _ _ o' o1 b p5 p6 e1 e2 p3' e3
      subst this
      obtain ⟨_, o2, e4⟩ := t.ln k o' q1
      exact findL_none z k o2 p1 e4
  have own1 : ∀ b, Own (storeA π rs as') σ b → Own π σ b := fun b ⟨j, sl, o, e1, e2, e3⟩ => by
    obtain ⟨sl1, o1, q1, q2, _⟩ := lift j sl o e1 e2
    exact ⟨j, sl1, o1, q1, q2, e3⟩
  have tr : Tr F π σ H F' (storeA π rs as') σ H' := ⟨t.le, fun b o q n => t.keep b o q fun z => n (oa b z), fun b q => (t.new b q).imp id (Or.imp id (oa b)), fun b q => .inr (own1 b q), fun j o q => ⟨rfl, ?_⟩⟩
  · refine ⟨⟨s'.le, by unfold storeA; rw [List.length_mapIdx]; exact s.len, fun j p q => ?_, fun j sl o e1 e2 => ?_, fun j k s1 s2 o1 o2 b e1 e2 e3 e4 e5 e6 => ?_⟩, tr, fun r v hr => ?_⟩
    · rw [store_get] at q
      cases z : π[j]? with
      | none => rw [z] at q; cases q
      | some sl =>
        rw [z] at q
        have hv : sl = .val p := by
          cases f : findL j rs as' with
          | none => rw [f] at q; exact Option.some.inj q
          | some o2 =>
            rw [f] at q
            have q' : sl.put o2 = .val p := Option.some.inj q
            cases sl <;> first | exact q' | cases q'
        subst hv
        obtain ⟨v, e1, h1⟩ := s.vl j p z
        exact ⟨v, e1, Rp.mono t.le _ _ h1⟩
    · obtain ⟨sl1, o1, q1, q2, q3⟩ := lift j sl o e1 e2
      obtain ⟨b, e3, h1, h2⟩ := s.ow j sl1 o1 q1 q2
      refine ⟨b, e3, ?_⟩
      cases f : findL j rs as' with
      | some o2 =>
        rw [f] at q3
        have q3' : o = o2 := q3
        subst q3'
        obtain ⟨k, p1, p2⟩ := findL_some f
        obtain ⟨b', e4, h3, h4⟩ := s'.ow k _ o p2 rfl
        have hk : k < rs.length := (List.getElem?_eq_some_iff.mp p1).1
        have hk2 : k < as.length := by rw [load_len e]; exact hk
        obtain ⟨r, v, w1, w2, w3, w4⟩ := load_at h e k _ (List.getElem?_eq_getElem hk2)
        rw [p1] at w1
        cases w1
        have w3' : σ[j]? = some (some v) := w3
        rw [e3] at w3'
        cases w3'
        have r1 : b = b' := by simp [w2] at e4; exact e4
        subst r1
        exact ⟨h3, h4⟩
      | none =>
        rw [f] at q3
        have q3' : o = o1 := q3
        subst q3'
        have nb : ¬ Own as (vs.map some) b := fun z => who b j sl1 o q1 q2 e3 z f
        obtain ⟨u, hu⟩ := h2.there
        refine ⟨?_, h2.step t.le fun x q => t.keep b x q nb⟩
        cases g : F' b with
        | none => rfl
        | some x =>
          rcases t.new b (by rw [g]; exact fun z => nomatch z) with z | z | z
          · exact absurd h1 z
          · rw [hu] at z; cases z
          · exact absurd z nb
    · obtain ⟨s3, o3, q1, q2, _⟩ := lift j s1 o1 e1 e2
      obtain ⟨s4, o4, q3, q4, _⟩ := lift k s2 o2 e3 e4
      exact s.dj j k s3 s4 o3 o4 b q1 q2 q3 q4 e5 e6
    · cases r with
      | val p => exact hr
      | own o =>
        obtain ⟨b, e1, q1, q2, q3, q4⟩ := hr
        have fresh : H b = none := by
          rcases q4 with q | ⟨k, sl, o2, p1, p2, p3⟩
          · exact q
          · cases sl with
            | no => cases p2
            | val p => cases p2
            | own o' => exact absurd p1 (load_noOwn h e k o')
            | loan o' =>
              obtain ⟨w1, o3, w2⟩ := t.ln k o' p1
              exact absurd ⟨k, o3, w2, p3⟩ q2
        refine ⟨b, e1, q1, fun z => ?_, q3, .inl fresh⟩
        obtain ⟨u, hu⟩ := own_some s (own1 b z)
        rw [hu] at fresh; cases fresh
  · rw [store_get, q]
    cases findL j rs as' with
    | none => exact ⟨o, rfl⟩
    | some o2 => exact ⟨o2, rfl⟩
/-- the call's reading -/
theorem call_post {Fn : FN} {K : Rs → En → Hp → Hp → Prop} {Q : VK} {n : Nat} (s : SR c F π σ H) (h : RRs c π0 H0 F π σ H rs vs) (hlen : rs.length = n)
    (po : Po c W F π σ H (callR Fn rs π) K) (k : ∀ r π' F' H' v, Tr F π σ H F' π' σ H' → K r π' F' H' → RR c π H F' π' σ H' r v → Q v H') : spF c n Fn vs H Q (fun cls d H' => W cls d σ H') := by
  unfold callR at po
  cases e : loads π rs with
  | none => rw [e] at po; exact po.elim
  | some as =>
    rw [e] at po
    by_cases hn : (rs.filterMap borIx).Nodup
    · simp only [if_pos hn] at po
      obtain ⟨sa, oa⟩ := load_sr s h e hn
      refine ⟨F, as, by rw [load_len e]; exact hlen, load_noOwn h e, sa, ?_⟩
      cases f : Fn as with
      | bad => rw [f] at po; exact po
      | exc C ps as' =>
        rw [f] at po
        intro F' H' d t s' xd
        obtain ⟨h1, h2, _⟩ := store_ok s h e hn t s'
        exact po F' H' d h2 h1 xd
      | ok r as' =>
        rw [f] at po
        intro v F' H' t s' hr
        obtain ⟨h1, h2, h3⟩ := store_ok s h e hn t s'
        exact k _ _ _ _ v h2 (po F' H' h2 h1) (h3 r v hr)
    · simp only [if_neg hn] at po
      exact po.elim
end
section
variable {X : Cx} {c : Ctx} {w : Wi} {k n : Nat} {f : Addr} {fd : FuncData} {ps : List Str} {Fn : FN} {x m : Str} {p pos apos : Pos} {e o : Expr} {es : List Expr} {fa : M (List Rs)} {fo : M Rs}
/-- f(e, ..) -/
theorem p_call (G : FnOk X.prog X.w X.K X.mg X.base (L2.CX X.prog X.w) k f fd ps (spF c n Fn)) (hr : Room k X.A) (hg : Gl X x) (hm : X.mg x = some (.ref f)) (hk : PySem.W.keepIn X.K (.ref f) = true) (hb : Binds X.K fd ps []) (tk : Takes X w.W)
    (ha : PA X (e :: es) (tR c w fa)) (hlen : ∀ π rs π', fa π = .ok rs π' → rs.length = n) (hdb : (x == ("__debug__" : Str)) = false := by decide) (he : starEach (e :: es) X.env = (false, eval e X.env) :: starEach es X.env := by rfl) (hpl : (backTo pos (starEach es X.env)).any (·.1) = false := by rfl) :
    PE X (.Call (.Name x p) (e :: es) [] pos) (tE c w (callF Fn fa)) :=
  pe_weak (pe_callS G hr hg hm hk hb (fun σ => passAt tk σ) ha hdb he hpl) fun σ H Q ⟨F, π, gg, s, po⟩ => by
    refine ⟨F, π, gg, s, ?_⟩
    unfold callF at po
    cases e0 : fa π with
    | bad => rw [e0] at po; exact po
    | exc C qs π1 => rw [e0] at po; exact po
    | ok rs π1 =>
      rw [e0] at po
      intro F1 H1 t s1 vs hx
      refine call_post s1 hx (hlen _ _ _ e0) (Po.from po t) fun r π2 F2 H2 v t2 kk hr2 => kk v (hr2.base t)
end
end PV

namespace PV
open PySem L2 PyProof.Rows

/-! ### tests -/
def tstR (r : Rs) : M Bool := fun π => match r with
  | .val (.bl b) => .ok b π
  | _ => .bad
def tstF (f : M Rs) : M Bool := fun π => (f π).bind tstR
theorem tst_weak {c : Ctx} {w : Wi} {f : M Rs} {t : TE} (h : ∀ σ H Q, tE c w f σ H Q → t σ H Q) : ∀ (σ : L2.St) (H : Hp) (Q : Bool → Hp → Prop), tT c w (tstF f) σ H Q → t σ H (fun x H' => ∃ k, x = .bl k ∧ Q k H') := fun σ H Q ⟨F, π, gg, s, po⟩ => by
  refine h σ H _ ⟨F, π, gg, s, (Po.split po).mono fun r π1 F1 H1 t s1 p1 v hr => ?_⟩
  cases r with
  | own o => exact p1.elim
  | bor i => exact p1.elim
  | val p =>
    cases p with
    | bl b => exact ⟨b, rp_bl (show Rp c F1 (.bl b) v from hr), p1 F1 H1 .refl s1⟩
    | _ => exact p1.elim
section
variable {X : Cx} {c : Ctx} {w : Wi} {e a b d : Expr} {rest : List Expr} {pos : Pos} {f g h : M Rs} {ft gt : M Bool}
/-- a value that is a truth -/
theorem p_tst (he : PE X e (tE c w f)) (hi : ∀ whole, isTrue e X.env whole = (do let v ← whole; standAt e.pos; holding [v] (truthy v)) := by intro _; rfl) : PT X e (tT c w (tstF f)) :=
  pt_weak (pt_val he hi) (tst_weak fun _ _ _ h => h)
theorem p_tcmp {op : CmpOp} {r : R2} {o : P → P → Option Rv} (hop : OpR X (compareOp op) r) (hv : OpV c r o) (ha : PE X a (tE c w f)) (hb : PE X b (tE c w g)) (hm : behindInMarks op b = false) : PT X (.Compare a [op] [b] pos) (tT c w (tstF (binF o f g))) :=
  pt_weak (pt_cmpR hop ha hb hm) (tst_weak (bin_weak hv))
theorem pw_weak {X : Cx} {e : Expr} {t t' : TT} (h : PW X e t) (k : ∀ σ H Q, t' σ H Q → t σ H Q) : PW X e t' := ⟨fun wh pins s σ H Q I q => h.run wh pins s σ H Q I (k _ _ _ q)⟩
def andF (ft gt : M Bool) : M Bool := fun π => (ft π).bind fun b π1 => if b = true then gt π1 else .ok false π1
def orF (ft gt : M Bool) : M Bool := fun π => (ft π).bind fun b π1 => if b = true then .ok true π1 else gt π1
def notF (ft : M Bool) : M Bool := fun π => (ft π).bind fun b π1 => .ok (!b) π1
theorem w_and1 (ha : PT X a (tT c w ft)) : PW X (.BoolOp .And [a] pos) (tT c w ft) := pw_and1 ha
theorem w_or1 (ha : PT X a (tT c w ft)) : PW X (.BoolOp .Or [a] pos) (tT c w ft) := pw_or1 ha
theorem w_and (ha : PT X a (tT c w ft)) (hb : PW X (.BoolOp .And (b :: rest) pos) (tT c w gt)) : PW X (.BoolOp .And (a :: b :: rest) pos) (tT c w (andF ft gt)) :=
  pw_weak (pw_and ha hb) fun σ H Q ⟨F, π, gg, s, po⟩ => by
    refine ⟨F, π, gg, s, (Po.split po).mono fun k π1 F1 H1 t s1 p1 => ?_⟩
    cases k with
    | true => exact ⟨F1, π1, w.mono _ _ t.le gg, s1, p1⟩
    | false => exact p1 F1 H1 .refl s1
theorem w_or (ha : PT X a (tT c w ft)) (hb : PW X (.BoolOp .Or (b :: rest) pos) (tT c w gt)) : PW X (.BoolOp .Or (a :: b :: rest) pos) (tT c w (orF ft gt)) :=
  pw_weak (pw_or ha hb) fun σ H Q ⟨F, π, gg, s, po⟩ => by
    refine ⟨F, π, gg, s, (Po.split po).mono fun k π1 F1 H1 t s1 p1 => ?_⟩
    cases k with
    | false => exact ⟨F1, π1, w.mono _ _ t.le gg, s1, p1⟩
    | true => exact p1 F1 H1 .refl s1
theorem p_not (ha : PT X a (tT c w ft)) : PT X (.UnaryOp .Not a pos) (tT c w (notF ft)) :=
  pt_weak (pt_not ha) fun σ H Q ⟨F, π, gg, s, po⟩ => ⟨F, π, gg, s, (Po.split po).mono fun k π1 F1 H1 t s1 p1 => p1 F1 H1 .refl s1⟩
/-! .. as values -/
def boolR (k : Bool → M Rs) (r : Rs) : M Rs := fun π => match r with
  | .val (.bl b) => k b π
  | _ => .bad
def andVF (f g : M Rs) : M Rs := fun π => (f π).bind (boolR fun b π1 => if b = true then g π1 else .ok (.val (.bl false)) π1)
def orVF (f g : M Rs) : M Rs := fun π => (f π).bind (boolR fun b π1 => if b = true then .ok (.val (.bl true)) π1 else g π1)
def notVF (f : M Rs) : M Rs := fun π => (f π).bind (boolR fun b π1 => .ok (.val (.bl (!b))) π1)
theorem boolR_post {W : WX} {F H H0 : Hp} {π π0 : En} {σ : L2.St} {k : Bool → M Rs} {r : Rs} {v : V} {K : Rs → En → Hp → Hp → Prop} (hr : RR c π0 H0 F π σ H r v) (po : Po c W F π σ H (boolR k r π) K) : ∃ b, v = .bl b ∧ Po c W F π σ H (k b π) K := by
  cases r with
  | own o => exact po.elim
  | bor i => exact po.elim
  | val p =>
    cases p with
    | bl b => exact ⟨b, rp_bl (show Rp c F (.bl b) v from hr), po⟩
    | _ => exact po.elim
theorem v_one {op} (h : PE X a (tE c w f)) : PE X (.BoolOp op [a] pos) (tE c w f) := pe_one h
theorem v_and (ha : PE X a (tE c w f)) (hb : PE X (.BoolOp .And (b :: rest) pos) (tE c w g)) : PE X (.BoolOp .And (a :: b :: rest) pos) (tE c w (andVF f g)) :=
  pe_weak (pe_and ha hb) fun σ H Q ⟨F, π, gg, s, po⟩ => by
    refine ⟨F, π, gg, s, (Po.split po).mono fun r π1 F1 H1 t s1 p1 v hr => ?_⟩
    obtain ⟨k, rfl, p2⟩ := boolR_post hr p1
    refine ⟨k, rfl, ?_⟩
    cases k with
    | true => exact ⟨F1, π1, w.mono _ _ t.le gg, s1, Po.mono p2 fun r2 π2 F2 H2 t2 s2 kk v2 h2 => kk v2 (h2.base t)⟩
    | false => exact p2 F1 H1 .refl s1 _ (show Rp c F1 (.bl false) (.bl false) from mk_bl)
theorem v_or (ha : PE X a (tE c w f)) (hb : PE X (.BoolOp .Or (b :: rest) pos) (tE c w g)) : PE X (.BoolOp .Or (a :: b :: rest) pos) (tE c w (orVF f g)) :=
  pe_weak (pe_or ha hb) fun σ H Q ⟨F, π, gg, s, po⟩ => by
    refine ⟨F, π, gg, s, (Po.split po).mono fun r π1 F1 H1 t s1 p1 v hr => ?_⟩
    obtain ⟨k, rfl, p2⟩ := boolR_post hr p1
    refine ⟨k, rfl, ?_⟩
    cases k with
    | false => exact ⟨F1, π1, w.mono _ _ t.le gg, s1, Po.mono p2 fun r2 π2 F2 H2 t2 s2 kk v2 h2 => kk v2 (h2.base t)⟩
    | true => exact p2 F1 H1 .refl s1 _ (show Rp c F1 (.bl true) (.bl true) from mk_bl)
theorem v_not (ha : PE X a (tE c w f)) : PE X (.UnaryOp .Not a pos) (tE c w (notVF f)) :=
  pe_weak (pe_not ha) fun σ H Q ⟨F, π, gg, s, po⟩ => by
    refine ⟨F, π, gg, s, (Po.split po).mono fun r π1 F1 H1 t s1 p1 v hr => ?_⟩
    obtain ⟨k, rfl, p2⟩ := boolR_post hr p1
    exact ⟨k, rfl, p2 F1 H1 .refl s1 _ (show Rp c F1 (.bl (!k)) (.bl (!k)) from mk_bl)⟩
/-! a if t else b -/
def ifEF (ft : M Bool) (f g : M Rs) : M Rs := fun π => (ft π).bind fun b π1 => if b = true then f π1 else g π1
theorem p_ifExp (hc : PT X d (tT c w ft)) (ha : PE X a (tE c w f)) (hb : PE X b (tE c w g)) : PE X (.IfExp d a b pos) (tE c w (ifEF ft f g)) :=
  pe_weak (pe_ifExp hc ha hb) fun σ H Q ⟨F, π, gg, s, po⟩ => by
    refine ⟨F, π, gg, s, (Po.split po).mono fun k π1 F1 H1 t s1 p1 => ?_⟩
    cases k with
    | true => exact ⟨F1, π1, w.mono _ _ t.le gg, s1, Po.mono p1 fun r2 π2 F2 H2 t2 s2 kk v2 h2 => kk v2 (h2.base t)⟩
    | false => exact ⟨F1, π1, w.mono _ _ t.le gg, s1, Po.mono p1 fun r2 π2 F2 H2 t2 s2 kk v2 h2 => kk v2 (h2.base t)⟩
/-! a op b op' d -/
def chF (o o' : P → P → Option Rv) (f g h : M Rs) : M Rs := fun π => (f π).bind fun r1 π1 => (g π1).bind fun r2 π2 => (op2 o r1 r2 π2).bind (boolR fun b π3 => if b = true then (h π3).bind (fun r3 => op2 o' r2 r3) else .ok (.val (.bl false)) π3)
theorem op2_post {W : WX} {F H H1 H2 : Hp} {π π1 π2 : En} {σ : L2.St} {o : P → P → Option Rv} {r : R2} (hv : OpV c r o) {r1 r2 : Rs} {x y : V} {K : Rs → En → Hp → Hp → Prop} {Q : VK} (s : SR c F π σ H) (hx : RR c π1 H1 F π σ H r1 x) (hy : RR c π2 H2 F π σ H r2 y)
    (po : Po c W F π σ H (op2 o r1 r2 π) K) (k : ∀ r' F' H' v, Tr F π σ H F' π σ H' → SR c F' π σ H' → K r' π F' H' → RR c π H F' π σ H' r' v → Q v H') : r x y H Q := by
  unfold op2 at po
  cases e1 : rdP π r1 with
  | none => rw [e1] at po; exact po.elim
  | some q1 =>
    cases e2 : rdP π r2 with
    | none => rw [e1, e2] at po; exact po.elim
    | some q2 =>
      rw [e1, e2] at po
      cases e3 : o q1 q2 with
      | none => simp only [e3] at po; exact po.elim
      | some rv =>
        simp only [e3] at po
        exact hv F H q1 q2 x y rv Q s.le (hx.rb s e1) (hy.rb s e2) e3 fun v F3 H3 gr rn => k _ F3 H3 v gr.tr (gr.sr s) (po F3 H3 gr.tr (gr.sr s)) (rn.rr s gr)
theorem ch_weak {r r' : R2} {o o' : P → P → Option Rv} (hv : OpV c r o) (hv' : OpV c r' o') : ∀ σ H Q, tE c w (chF o o' f g h) σ H Q → tChain r r' (tE c w f) (tE c w g) (tE c w h) σ H Q := fun σ H Q ⟨F, π, gg, s, po⟩ => by
  refine ⟨F, π, gg, s, (Po.split po).mono fun r1 π1 F1 H1 t1 s1 p1 x hx => ⟨F1, π1, w.mono _ _ t1.le gg, s1, (Po.split p1).mono fun r2 π2 F2 H2 t2 s2 p2 y hy => ?_⟩⟩
  refine op2_post hv s2 (hx.step t2) hy (Po.split p2) fun r3 F3 H3 v t3 s3 p3 h3 => ?_
  obtain ⟨k, rfl, p4⟩ := boolR_post h3 p3
  refine ⟨k, rfl, ?_⟩
  cases k with
  | false => exact p4 F3 H3 .refl s3 _ (show Rp c F3 (.bl false) (.bl false) from mk_bl)
  | true =>
    refine ⟨F3, π2, w.mono _ _ ((t1.trans t2).trans t3).le gg, s3, (Po.split p4).mono fun r4 π4 F4 H4 t4 s4 p5 z hz => ?_⟩
    exact op2_post hv' s4 ((hy.step t3).step t4) hz p5 fun r5 F5 H5 v t5 s5 kk h5 => kk v (h5.base (((t1.trans t2).trans t3).trans t4))
theorem p_chain {op op' : CmpOp} {r r' : R2} {o o' : P → P → Option Rv} (ho : OpR X (compareOp op) r) (hv : OpV c r o) (ho' : OpR X (compareOp op') r') (hv' : OpV c r' o') (ha : PE X a (tE c w f)) (hb : PE X b (tE c w g)) (hc : PE X d (tE c w h))
    (hm : lastMarks [op, op'] [b, d] = false := by with_unfolding_all rfl) : PE X (.Compare a [op, op'] [b, d] pos) (tE c w (chF o o' f g h)) := pe_weak (pe_chain ho ho' ha hb hc hm) (ch_weak hv hv')
theorem p_tchain {op op' : CmpOp} {r r' : R2} {o o' : P → P → Option Rv} (ho : OpR X (compareOp op) r) (hv : OpV c r o) (ho' : OpR X (compareOp op') r') (hv' : OpV c r' o') (ha : PE X a (tE c w f)) (hb : PE X b (tE c w g)) (hc : PE X d (tE c w h))
    (hm : lastMarks [op, op'] [b, d] = false := by with_unfolding_all rfl) : PT X (.Compare a [op, op'] [b, d] pos) (tT c w (tstF (chF o o' f g h))) := pt_weak (pt_chain ho ho' ha hb hc hm) (tst_weak (ch_weak hv hv'))
end

/-! ### displays: their items are taken -/
def outs (f : M (List Rs)) (k : List P → M Rs) : M Rs := fun π => (f π).bind fun rs π1 => match rds π1 rs with
  | some ps => k ps π1
  | none => .bad
/-- items: each a value -/
def vals : List Rs → Option (List P)
  | [] => some []
  | .val p :: rs => (vals rs).map (p :: ·)
  | _ :: _ => none
def tupR (rs : List Rs) : M Rs := fun π => match vals rs with
  | some ps => if ps.length ≤ 1000000 then .ok (.val (.tup ps)) π else .bad
  | none => .bad
def lstR (rs : List Rs) : M Rs := fun π => match vals rs with
  | some ps => if ps.length ≤ 1000000 then .ok (.own (.lst ps)) π else .bad
  | none => .bad
def tupF (f : M (List Rs)) : M Rs := fun π => (f π).bind tupR
def lstF (f : M (List Rs)) : M Rs := fun π => (f π).bind lstR
section
variable {X : Cx} {c : Ctx} {w : Wi} {es : List Expr} {pos : Pos} {f : M (List Rs)} {π0 : En} {H0 F H : Hp} {π : En} {σ : L2.St}
theorem vals_rps : ∀ {rs : List Rs} {vs : List V} {ps : List P}, RRs c π0 H0 F π σ H rs vs → vals rs = some ps → Rps c F ps vs
  | [], _, _, h, e => by cases e; rw [show _ = [] from h]; exact rps_nil
  | .val p :: rs, _, _, h, e => by
    obtain ⟨v, l, rfl, h1, h2⟩ := h
    unfold vals at e
    cases e1 : vals rs with
    | none => rw [e1] at e; cases e
    | some qs =>
      rw [e1] at e
      cases e
      exact rps_cons h1 (vals_rps h2 e1)
  | .own _ :: _, _, _, _, e => by cases e
  | .bor _ :: _, _, _, _, e => by cases e
theorem len_line {ps : List P} {vs : List V} (r : Rps c F ps vs) (h : ps.length ≤ 1000000) : vs.length ≤ sizeLine := by
  have := rps_len r
  have := sizeLine_eq
  omega
theorem p_tup {x1} (h : PA X es (tR c w f)) : PE X (.Tuple es x1 pos) (tE c w (tupF f)) := pe_weak (pe_tup h) fun σ H Q ⟨F, π, gg, s, po⟩ => by
  refine ⟨F, π, gg, s, (Po.split po).mono fun rs π1 F1 H1 t s1 p1 vs hr => ?_⟩
  unfold tupR at p1
  cases e : vals rs with
  | none => rw [e] at p1; exact p1.elim
  | some ps =>
    rw [e] at p1
    have r := vals_rps hr e
    by_cases hl : ps.length ≤ 1000000
    · simp only [if_pos hl] at p1
      refine ⟨len_line r hl, fun p hp => ?_⟩
      have gr := gr_tup (vs := vs) s1.le hp
      exact p1 _ _ gr.tr (gr.sr s1) _ (RN.rr (rv := .val (.tup ps)) s1 gr (rn_tup s1.le hp r))
    · simp only [if_neg hl] at p1; exact p1.elim
theorem p_lst (h : PA X es (tR c w f)) : PE X (.List es pos) (tE c w (lstF f)) := pe_weak (pe_lst h) fun σ H Q ⟨F, π, gg, s, po⟩ => by
  refine ⟨F, π, gg, s, (Po.split po).mono fun rs π1 F1 H1 t s1 p1 vs hr => ?_⟩
  unfold lstR at p1
  cases e : vals rs with
  | none => rw [e] at p1; exact p1.elim
  | some ps =>
    rw [e] at p1
    have r := vals_rps hr e
    by_cases hl : ps.length ≤ 1000000
    · simp only [if_pos hl] at p1
      refine ⟨len_line r hl, fun p hp => ?_⟩
      have gr : Gr F1 H1 F1 (L2.upd H1 p (.lst vs)) := gr_lst s1.le hp
      exact p1 _ _ gr.tr (gr.sr s1) _ ((RN.rr (rv := .own (.lst ps)) s1 gr (rn_lst s1.le hp r)).base t)
    · simp only [if_neg hl] at p1; exact p1.elim
end
end PV

namespace PV
open PySem L2 PyProof.Rows

/-! ### targets -/
abbrev TgF := P → En → Option En
def PoT (c : Ctx) (F : Hp) (π : En) (σ : L2.St) (H : Hp) (sl : List Nat) (o : Option En) (Q : L2.St → Hp → Prop) : Prop := match o with
  | some π' => ∀ σ', SR c F π' σ' H → Tr F π σ H F π' σ' H → (∀ j, j ∉ sl → σ'[j]? = σ[j]?) → σ'.length = σ.length → Q σ' H
  | none => False
def tG (c : Ctx) (w : Ws) (sl : List Nat) (t : TgF) : TG := fun v σ H Q => ∃ F π p, w.g F ∧ SR c F π σ H ∧ Rp c F p v ∧ PoT c F π σ H sl (t p π) Q
def tGs (c : Ctx) (w : Ws) (sl : List Nat) (t : List P → En → Option En) : TGs := fun vs σ H Q => ∃ F π ps, w.g F ∧ SR c F π σ H ∧ Rps c F ps vs ∧ PoT c F π σ H sl (t ps π) Q
def nameT (i : Nat) : TgF := fun p π => match π[i]? with
  | none => none
  | some (.loan _) => none
  | some _ => some (π.set i (.val p))
def nilT : List P → En → Option En
  | [], π => some π
  | _, _ => none
def consT (t : TgF) (u : List P → En → Option En) : List P → En → Option En
  | p :: ps, π => (t p π).bind (u ps)
  | [], _ => none
def tupT (t : List P → En → Option En) : TgF
  | .tup ps => t ps
  | _ => fun _ => none
section
variable {X : Cx} {c : Ctx} {w : Ws} {e : Expr} {es : List Expr} {pos : Pos} {t : TgF} {u : List P → En → Option En} {sl sl' : List Nat}
theorem pg_weak {X : Cx} {e : Expr} {t t' : TG} (h : PG X e t) (k : ∀ v σ H Q, t' v σ H Q → t v σ H Q) : PG X e t' := ⟨fun pins s σ H v u Q I r q => h.run pins s σ H v u Q I r (k _ _ _ _ q)⟩
theorem pgs_weak {X : Cx} {e : List Expr} {t t' : TGs} (h : PGs X e t) (k : ∀ v σ H Q, t' v σ H Q → t v σ H Q) : PGs X e t' := ⟨fun pins s σ H v u Q I r q => h.run pins s σ H v u Q I r (k _ _ _ _ q)⟩
theorem nameT_post {F H : Hp} {π : En} {σ : L2.St} {i : Nat} {p : P} {v : V} {Q : L2.St → Hp → Prop} (s : SR c F π σ H) (r : Rp c F p v) (po : PoT c F π σ H [i] (nameT i p π) Q) : Q (σ.set i (some v)) H := by
  unfold nameT at po
  cases q : π[i]? with
  | none => rw [q] at po; exact po.elim
  | some sl =>
    rw [q] at po
    have main : (∀ o, sl ≠ .loan o) → PoT c F π σ H [i] (some (π.set i (.val p))) Q → Q (σ.set i (some v)) H := fun hn po => by
      have hi : i < π.length := (List.getElem?_eq_some_iff.mp q).1
      obtain ⟨s2, t2⟩ := s.set hi (fun o z => by rw [q] at z; exact hn o (Option.some.inj z)) (.val p) (some v) (fun p' e => by cases e; exact ⟨v, rfl, r⟩) (fun o e => by cases e) (fun o e => by cases e)
      exact po _ s2 (t2 _ _ _ _ .refl fun a e ⟨o, h⟩ => by cases h) (fun j hj => List.getElem?_set_ne (by intro z; exact hj (by simp [z]))) (by simp)
    cases sl with
    | loan o => exact po.elim
    | no => exact main (fun o z => by cases z) po
    | val p => exact main (fun o z => by cases z) po
    | own o => exact main (fun o z => by cases z) po
theorem g_name {i : Nat} {x : Str} (hN : X.N.Nodup) (hi : X.N[i]? = some x) (hx : Loc X.env.scope x) (hf : X.fn x = true ∨ X.env.scope.names.lookup x = some .local := by first | exact .inl rfl | exact .inr rfl | assumption) : PG X (.Name x pos) (tG c w [i] (nameT i)) :=
  pg_weak (pg_name hN hi hx hf) fun v σ H Q ⟨F, π, p, gg, s, r, po⟩ => nameT_post s r po
theorem gs_nil : PGs X [] (tGs c w [] nilT) := pgs_weak pgs_nil fun vs σ H Q ⟨F, π, ps, gg, s, r, po⟩ => by
  cases ps with
  | nil => exact ⟨rps_nil_inv r, po σ s .refl (fun _ _ => rfl) rfl⟩
  | cons p ps => exact po.elim
theorem gs_cons (h1 : PG X e (tG c w sl t)) (h2 : PGs X es (tGs c w sl' u)) (hs : (assignEach (e :: es) X.env).map (·.2) = assign e X.env :: (assignEach es X.env).map (·.2) := by rfl) : PGs X (e :: es) (tGs c w (sl ++ sl') (consT t u)) :=
  pgs_weak (pgs_cons h1 h2 hs) fun vs σ H Q ⟨F, π, ps, gg, s, r, po⟩ => by
    cases ps with
    | nil => exact po.elim
    | cons p ps =>
      obtain ⟨v, l, rfl, r1, r2⟩ := rps_inv r
      refine ⟨v, l, rfl, F, π, p, gg, s, r1, ?_⟩
      unfold consT at po
      cases e1 : t p π with
      | none => simp only [e1, Option.bind] at po; exact po.elim
      | some π1 =>
        simp only [e1, Option.bind] at po
        intro σ1 s1 t1 k1 n1
        refine ⟨F, π1, ps, gg, s1, r2, ?_⟩
        cases e2 : u ps π1 with
        | none => rw [e2] at po; exact po.elim
        | some π2 =>
          rw [e2] at po
          intro σ2 s2 t2 k2 n2
          exact po σ2 s2 (t1.trans t2) (fun j hj => (k2 j fun z => hj (List.mem_append_right _ z)).trans (k1 j fun z => hj (List.mem_append_left _ z))) (n2.trans n1)
/-- how many parts a target wants -/
def Arity (n : Nat) (u : List P → En → Option En) : Prop := ∀ ps π π', u ps π = some π' → ps.length = n
theorem ar_nil : Arity 0 nilT := fun ps π π' h => by
  cases ps with
  | nil => rfl
  | cons p ps => cases h
theorem ar_cons {n : Nat} (h : Arity n u) : Arity (n + 1) (consT t u) := fun ps π π' e => by
  cases ps with
  | nil => cases e
  | cons p ps =>
    cases e1 : t p π with
    | none => simp only [consT, e1, Option.bind] at e; cases e
    | some π1 =>
      simp only [consT, e1, Option.bind] at e
      rw [List.length_cons, h ps π1 π' e]
theorem g_tup {k n : Nat} (hK : X.K = c.K) (hc : X.calm = true) (h : PGs X es (tGs c w sl u)) (hl : Arity n u)
    (hn : (assignEach es X.env).length = n := by rfl) (hst : (assignEach es X.env).findIdx? (·.1) = none := by rfl) : PG X (.Tuple es k pos) (tG c w sl (tupT u)) :=
  pg_weak (pg_tup (n := n) hc h hn hst) fun v σ H Q ⟨F, π, p, gg, s, r, po⟩ => by
    cases p with
    | tup ps =>
      obtain ⟨a, vs, rfl, h1, h2⟩ := rp_tup r
      refine ⟨a, vs, rfl, by rw [hK]; exact s.le.sqT h1, ?_, F, π, ps, gg, s, h2, po⟩
      rw [← rps_len h2]
      have po' : PoT c F π σ H sl (u ps π) Q := po
      cases e : u ps π with
      | none => rw [e] at po'; exact po'.elim
      | some π1 => exact hl ps π π1 e
    | _ => exact po.elim
/-- target = value -/
def asgR (t : TgF) (p : P) : M Fl := fun π => match t p π with
  | some π' => .ok .nx π'
  | none => .bad
def asgF (t : TgF) (f : M P) : M Fl := fun π => (f π).bind (asgR t)
theorem asg_post {W : WX} {F H F0 H0 : Hp} {π π0 : En} {σ : L2.St} {p : P} {v : V} {D : Ends} {g : TG} {W' : Ws} {K : L2.St → Hp → Prop} (gg : W'.g F) (s : SR c F π σ H) (r : Rp c F p v) (t0 : Tr F0 π0 σ H0 F π σ H)
    (po : PoS c W F0 π0 σ H0 (asgR t p π) (flK c D π0 σ H0)) : tG c W' sl t v σ H D.nx := by
  refine ⟨F, π, p, gg, s, r, ?_⟩
  unfold asgR at po
  cases e : t p π with
  | none => rw [e] at po; exact po.elim
  | some π' =>
    rw [e] at po
    exact fun σ' s' t' _ _ => po F σ' H (t0.trans t') s'
theorem s_asg {tg : Expr} {f : M P} (he : PE X e (tV c w f)) (hg : PG X tg (tG c w sl t)) (hs : swapsWithSole [tg] e pos.line X.env = pure false := by rfl) (hw : swappedStores [tg] e X.env = pure none := by rfl)
    (h1 : (assignEach [tg] X.env).map (·.2) = [assign tg X.env] := by rfl) : PS X (.Assign [tg] e pos) (tS c w (asgF t f)) :=
  ps_weak (ps_asg he hg hs hw h1) fun D σ H ⟨F, π, gg, s, po⟩ => by
    refine ⟨F, π, gg, s, ?_⟩
    unfold asgF at po
    cases e0 : f π with
    | bad => rw [e0] at po; exact po
    | exc C ps π1 => rw [e0] at po; exact fun F' H' d t s => po F' σ H' d t s
    | ok p π1 =>
      rw [e0] at po
      intro F1 H1 t1 s1 v hr
      exact asg_post (g := tG c w sl t) (W' := w) (K := D.nx) (w.mono _ _ t1.le gg) s1 hr t1 po
end

/-! ### what a loop walks -/
structure Wk (c : Ctx) (F : Hp) (J : It) (ps : List P) : Prop where
  stop : ∀ G, Le F G → J.stop ps.length G
  go : ∀ i G, Le F G → i < ps.length → J.go i G
  yld : ∀ (i : Nat) (p : P) (F1 G : Hp) (x : V) (G' : Hp), Le F F1 → Le F1 G → ps[i]? = some p → J.yld i G x G' → ∃ F2, Gr F1 G F2 G' ∧ Rp c F2 p x
def tI (c : Ctx) (w : Wi) (f : M (List P)) : TI := fun σ H R => ∃ F π, w.g σ F ∧ SR c F π σ H ∧ Po c w.W F π σ H (f π) (fun ps π' F' H' => ∀ J, Wk c F' J ps → ps.length ≤ sizeLine → R J H')
theorem pi_weak {X : Cx} {tg e : Expr} {t t' : TI} (h : PI X tg e t) (k : ∀ σ H Q, t' σ H Q → t σ H Q) : PI X tg e t' := ⟨fun pins s σ H Q I q => h.run pins s σ H Q I (k _ _ _ q)⟩
/-! for -/
def loopF (t : TgF) (fb : M Fl) : List P → M Fl
  | [] => fun π => .ok .nx π
  | p :: ps => fun π => match t p π with
    | none => .bad
    | some π1 => (fb π1).bind fun fl π2 => match fl with
      | .nx => loopF t fb ps π2
      | .ct => loopF t fb ps π2
      | .bk => .ok .nx π2
      | .rt r => .ok (.rt r) π2
def forF (fi : M (List P)) (t : TgF) (fb : M Fl) : M Fl := fun π => (fi π).bind (loopF t fb)
section
variable {X : Cx} {c : Ctx} {w : Ws} {tg iter : Expr} {body : List Stmt} {pos : Pos} {fi : M (List P)} {t : TgF} {fb : M Fl} {sl : List Nat}
theorem s_for (hp : PassesOwn (model X.prog X.w) X.A X.env X.xe) (hc : X.calm = true) (hi : PI X tg iter (tI c w fi)) (hg : PG X tg (tG c w sl t)) (hb : PSs X body (tS c w fb))
    (hs : ∀ x, foldedSetIterable iter X.env x = pure x := by intro _; rfl) : PS X (.For tg iter body [] pos) (tS c w (forF fi t fb)) :=
  ps_weak (ps_for hp hc hi hg hb hs) fun D σ H ⟨F, π, gg, s, po⟩ => by
    refine ⟨F, π, gg, s, (PoS.split po).mono fun ps π1 F1 H1 t1 s1 p1 J wk _ => ?_⟩
    refine ⟨fun i m σ' H' => m = ps.length - i ∧ i ≤ ps.length ∧ ∃ F' π', Le F1 F' ∧ w.g F' ∧ SR c F' π' σ' H' ∧ Tr F π σ H F' π' σ' H' ∧ PoS c w.W F' π' σ' H' (loopF t fb (ps.drop i) π') (flK c D π σ H),
      ⟨_, rfl, Nat.zero_le _, F1, π1, Le.refl _, w.mono _ _ t1.le gg, s1, t1, p1⟩, ?_⟩
    rintro i m σ' H' ⟨rfl, hi, F', π', l1, g1, s', t', po'⟩
    by_cases hlt : i < ps.length
    · refine .inr ⟨wk.go i H' (l1.trans s'.le) hlt, fun σ2 H2 => (ps.length - (i + 1)) = ps.length - (i + 1) ∧ i + 1 ≤ ps.length ∧ ∃ F' π', Le F1 F' ∧ w.g F' ∧ SR c F' π' σ2 H2 ∧ Tr F π σ H F' π' σ2 H2 ∧ PoS c w.W F' π' σ2 H2 (loopF t fb (ps.drop (i + 1)) π') (flK c D π σ H),
        fun σ2 H2 q => ⟨ps.length - (i + 1), by omega, q⟩, fun x H2 y => ?_⟩
      obtain ⟨F2, gr, rx⟩ := wk.yld i ps[i] F' H' x H2 l1 s'.le (List.getElem?_eq_getElem hlt) y
      rw [List.drop_eq_getElem_cons hlt] at po'
      have po2 := PoS.from po' (gr.tr (π := π') (σ := σ'))
      have s2 := gr.sr s'
      have t2 := t'.trans (gr.tr (π := π') (σ := σ'))
      refine ⟨F2, π', ps[i], w.mono _ _ gr.le g1, s2, rx, ?_⟩
      unfold loopF at po2
      cases e1 : t ps[i] π' with
      | none => rw [e1] at po2; exact po2.elim
      | some π2 =>
        rw [e1] at po2
        intro σ3 s3 t3 k3 n3
        have po3 := PoS.from (show PoS c w.W F2 π' σ' H2 ((fb π2).bind _) _ from po2) t3
        refine ⟨F2, π2, w.mono _ _ gr.le g1, s3, (PoS.splitS po3).mono fun fl π4 F4 σ4 H4 t4 s4 p4 => ?_⟩
        have again : PoS c w.W F4 π4 σ4 H4 (loopF t fb (ps.drop (i + 1)) π4) (flK c D π σ H) → (ps.length - (i + 1)) = ps.length - (i + 1) ∧ i + 1 ≤ ps.length ∧ ∃ F' π', Le F1 F' ∧ w.g F' ∧ SR c F' π' σ4 H4 ∧ Tr F π σ H F' π' σ4 H4 ∧ PoS c w.W F' π' σ4 H4 (loopF t fb (ps.drop (i + 1)) π') (flK c D π σ H) := fun q =>
          ⟨rfl, hlt, F4, π4, (l1.trans gr.le).trans t4.le, w.mono _ _ (gr.le.trans t4.le) g1, s4, (t2.trans t3).trans t4, q⟩
        cases fl with
        | nx => exact again p4
        | ct => exact again p4
        | bk => exact p4 F4 σ4 H4 .refl s4
        | rt r => exact flK.base (fl := .rt r) (p4 F4 σ4 H4 .refl s4) (t2.trans t3)
    · have e : i = ps.length := by omega
      subst e
      rw [List.drop_length] at po'
      exact .inl ⟨wk.stop H' (l1.trans s'.le), po' F' σ' H' .refl s'⟩
end
end PV

namespace PV
open PySem L2 PyProof.Rows

/-! ### sources -/
/-- a list or a tuple -/
def iTwo (K : PySem.W.Frag) (tl : TE) : TI := fun σ H R => tl σ H fun x H1 => (∃ a xs, x = .ref a ∧ SqL K H1 a xs ∧ (xs.length ≤ sizeLine → R (Itl K a) H1)) ∨ (∃ a xs, x = .ref a ∧ SqT K H1 a xs ∧ (xs.length ≤ sizeLine → R (Itt K a) H1))
theorem pi_two {X : Cx} {tg l : Expr} {tl : TE} (hl : PE X l tl) : PI X tg l (iTwo X.K tl) := by
  refine ⟨fun pins s σ H R I h => ?_⟩
  refine thn (hl.run pins s σ H _ I h) fun v s1 ⟨x, H1, I1, r1, q1⟩ => ?_
  rcases q1 with ⟨a, xs, e, hq, q⟩ | ⟨a, xs, e, hq, q⟩
  · subst e
    cases r1
    obtain ⟨its, rv, p, hz⟩ := I1.list hq
    refine wpAny_pyIter_list p.isList ?_
    refine ⟨s1.heap.objs.size, [s1.heap.objs.size], _, _, H1, rfl, I1.kept (t' := s1.toks) fun b o e => Heap.get?_push_of_some _ e, turn_list a _, ⟨_, Heap.get?_push_size _ rfl, rfl, rfl⟩, fun b hb => ?_, q hz⟩
    have e : b = s1.heap.objs.size := by simpa using hb
    subst e
    exact I1.fpOk (Nat.le_refl _) (I1.hok.fresh (Nat.le_refl _))
  · subst e
    cases r1
    obtain ⟨its, rv, p, hz⟩ := I1.tuple hq
    refine wpAny_pyIter_tuple (show s1.heap.IsTuple a its.toArray from p) ?_
    refine ⟨s1.heap.objs.size, [s1.heap.objs.size], _, _, H1, rfl, I1.kept (t' := s1.toks) fun b o e => Heap.get?_push_of_some _ e, turn_tuple a _, ⟨_, Heap.get?_push_size _ rfl, rfl, rfl⟩, fun b hb => ?_, q hz⟩
    have e : b = s1.heap.objs.size := by simpa using hb
    subst e
    exact I1.fpOk (Nat.le_refl _) (I1.hok.fresh (Nat.le_refl _))
section
variable {c : Ctx} {F : Hp} {a : Addr} {vs : List V} {ps : List P}
theorem get_rp (r : Rps c F ps vs) {i : Nat} {p : P} {x : V} (e : ps[i]? = some p) (e2 : vs[i]? = some x) : Rp c F p x := by
  obtain ⟨v, h1, h2⟩ := rps_get r e
  rw [e2] at h1
  cases h1
  exact h2
theorem wk_list (h : SqL c.K F a vs) (r : Rps c F ps vs) : Wk c F (Itl c.K a) ps where
  stop := fun G l => ⟨vs, l.sqL h, by rw [rps_len r]; exact Nat.le_refl _⟩
  go := fun i G l hi => ⟨vs, vs[i]'(by rw [← rps_len r]; exact hi), l.sqL h, List.getElem?_eq_getElem _⟩
  yld := fun i p F1 G x G' l1 l2 e y => by
    obtain ⟨rfl, y⟩ := y
    exact ⟨F1, Gr.refl l2, Rp.mono l1 _ _ (get_rp r e (y vs ((l1.trans l2).sqL h)))⟩
theorem wk_tup (h : SqT c.K F a vs) (r : Rps c F ps vs) : Wk c F (Itt c.K a) ps where
  stop := fun G l => ⟨vs, l.sqT h, by rw [rps_len r]; exact Nat.le_refl _⟩
  go := fun i G l hi => ⟨vs, vs[i]'(by rw [← rps_len r]; exact hi), l.sqT h, List.getElem?_eq_getElem _⟩
  yld := fun i p F1 G x G' l1 l2 e y => by
    obtain ⟨rfl, y⟩ := y
    exact ⟨F1, Gr.refl l2, Rp.mono l1 _ _ (get_rp r e (y vs ((l1.trans l2).sqT h)))⟩
end
def seqItems : P → Option (List P)
  | .lst ps => some ps
  | .tup ps => some ps
  | _ => none
def itR (p : P) : M (List P) := fun π => match seqItems p with
  | some ps => .ok ps π
  | none => .bad
def itF (f : M P) : M (List P) := fun π => (f π).bind itR
def rngP (lo hi : Int) : List P := (List.range (hi - lo).toNat).map fun (i : Nat) => P.int (lo + (i : Int))
def rng1R (rs : List Rs) : M (List P) := fun π => match rs with
  | [.val (.int j)] => if -8000000 ≤ j ∧ j ≤ 8000000 then .ok (rngP 0 j) π else .bad
  | _ => .bad
def rng2R (rs : List Rs) : M (List P) := fun π => match rs with
  | [.val (.int i), .val (.int j)] => if (-8000000 ≤ i ∧ i ≤ 8000000) ∧ -8000000 ≤ j ∧ j ≤ 8000000 then .ok (rngP i j) π else .bad
  | _ => .bad
def rng1F (fa : M (List Rs)) : M (List P) := fun π => (fa π).bind rng1R
def rng2F (fa : M (List Rs)) : M (List P) := fun π => (fa π).bind rng2R
theorem rng_len {lo hi : Int} (h1 : -8000000 ≤ lo) (h2 : hi ≤ 8000000) : (rngP lo hi).length ≤ sizeLine := by
  have := sizeLine_eq
  unfold rngP
  rw [List.length_map, List.length_range]
  omega
theorem wk_range {c : Ctx} {F : Hp} (lo hi : Int) : Wk c F (Itr lo (hi - lo).toNat) (rngP lo hi) where
  stop := fun G l => by show (hi - lo).toNat ≤ (rngP lo hi).length; unfold rngP; simp
  go := fun i G l hi' => by show i < (hi - lo).toNat; unfold rngP at hi'; simpa using hi'
  yld := fun i p F1 G x G' l1 l2 e y => by
    obtain ⟨rfl, y⟩ := y
    subst y
    refine ⟨F1, Gr.refl l2, ?_⟩
    unfold rngP at e
    rw [List.getElem?_map] at e
    cases q : (List.range (hi - lo).toNat)[i]? with
    | none => rw [q] at e; cases e
    | some j =>
      rw [q] at e
      have hj : j = i := by
        obtain ⟨h1, h2⟩ := List.getElem?_eq_some_iff.mp q
        rw [← h2]; simp
      subst hj
      cases e
      exact mk_int
section
variable {X : Cx} {c : Ctx} {w : Wi} {tg e e2 : Expr} {pos p : Pos} {f : M P} {fa : M (List Rs)}
theorem i_seq (hK : X.K = c.K) (he : PE X e (tV c w f)) : PI X tg e (tI c w (itF f)) := pi_weak (pi_two he) fun σ H R ⟨F, π, gg, s, po⟩ => by
  refine ⟨F, π, gg, s, (Po.split po).mono fun q π1 F1 H1 t1 s1 p1 v hr => ?_⟩
  rw [hK]
  unfold itR at p1
  cases q with
  | lst ps =>
    obtain ⟨a, vs, rfl, h1, h2⟩ := rp_lst hr
    exact .inl ⟨a, vs, rfl, .of (s1.le.lst h1), fun hz => p1 F1 H1 .refl s1 _ (wk_list (.of h1) h2) (by rw [rps_len h2]; exact hz)⟩
  | tup ps =>
    obtain ⟨a, vs, rfl, h1, h2⟩ := rp_tup hr
    exact .inr ⟨a, vs, rfl, s1.le.sqT h1, fun hz => p1 F1 H1 .refl s1 _ (wk_tup h1 h2) (by rw [rps_len h2]; exact hz)⟩
  | _ => exact p1.elim
theorem i_range1 (hg : Gl X "range") (hm : X.mg "range" = none) (ha : PA X [e] (tR c w fa)) (hs : starEach [e] X.env = [(false, eval e X.env)] := by rfl) : PI X tg (.Call (.Name "range" p) [e] [] pos) (tI c w (rng1F fa)) :=
  pi_weak (pi_range1 hg hm ha hs) fun σ H R ⟨F, π, gg, s, po⟩ => by
    refine ⟨F, π, gg, s, (Po.split po).mono fun rs π1 F1 H1 t1 s1 p1 vs hr => ?_⟩
    unfold rng1R at p1
    split at p1
    · rename_i j
      obtain ⟨v, l, rfl, h1, h2⟩ := hr
      have hl : l = [] := h2
      subst hl
      have hv : v = .int j := rp_int (show Rp c F1 (.int j) v from h1)
      subst hv
      split at p1
      · rename_i hb
        exact ⟨j, rfl, by omega, by omega, by have := p1 F1 H1 .refl s1 _ (wk_range 0 j) (rng_len (by omega) hb.2); simpa using this⟩
      · exact p1.elim
    · exact p1.elim
theorem i_range2 (hg : Gl X "range") (hm : X.mg "range" = none) (ha : PA X [e, e2] (tR c w fa)) (hs : starEach [e, e2] X.env = [(false, eval e X.env), (false, eval e2 X.env)] := by rfl) (hs2 : starEach [e2] X.env = [(false, eval e2 X.env)] := by rfl) :
    PI X tg (.Call (.Name "range" p) [e, e2] [] pos) (tI c w (rng2F fa)) :=
  pi_weak (pi_range2 hg hm ha hs hs2) fun σ H R ⟨F, π, gg, s, po⟩ => by
    refine ⟨F, π, gg, s, (Po.split po).mono fun rs π1 F1 H1 t1 s1 p1 vs hr => ?_⟩
    unfold rng2R at p1
    split at p1
    · rename_i i j
      obtain ⟨v, l, rfl, h1, v2, l2, rfl, h3, h4⟩ := hr
      have hl : l2 = [] := h4
      subst hl
      have hv : v = .int i := rp_int (show Rp c F1 (.int i) v from h1)
      have hv2 : v2 = .int j := rp_int (show Rp c F1 (.int j) v2 from h3)
      subst hv hv2
      split at p1
      · rename_i hb
        exact ⟨i, j, rfl, ⟨by omega, by omega, by omega, by omega⟩, p1 F1 H1 .refl s1 _ (wk_range i j) (rng_len hb.1.1 hb.2.2)⟩
      · exact p1.elim
    · exact p1.elim
end

/-! ### while -/
def whileF : Nat → M Bool → M Fl → M Fl
  | 0, _, _ => fun _ => .bad
  | n + 1, ft, fb => fun π => (ft π).bind fun b π1 => if b = true then (fb π1).bind (fun fl π2 => match fl with
      | .nx => whileF n ft fb π2
      | .ct => whileF n ft fb π2
      | .bk => .ok .nx π2
      | .rt r => .ok (.rt r) π2) else .ok .nx π1
theorem s_while {X : Cx} {c : Ctx} {w : Ws} {cnd : Expr} {body : List Stmt} {pos : Pos} {ft : M Bool} {fb : M Fl} (n : Nat) (hp : PassesOwn (model X.prog X.w) X.A X.env X.xe) (hc : PT X cnd (tT c w ft)) (hb : PSs X body (tS c w fb)) : PS X (.While cnd body [] pos) (tS c w (whileF n ft fb)) :=
  ps_weak (ps_while hp hc hb) fun D σ H ⟨F, π, gg, s, po⟩ => by
    refine ⟨fun m σ' H' => ∃ F' π', w.g F' ∧ SR c F' π' σ' H' ∧ Tr F π σ H F' π' σ' H' ∧ PoS c w.W F' π' σ' H' (whileF m ft fb π') (flK c D π σ H), ⟨n, F, π, gg, s, .refl, po⟩, ?_⟩
    rintro m σ1 H1 ⟨F1, π1, g1, s1, t1, p1⟩
    cases m with
    | zero => exact p1.elim
    | succ m =>
      refine ⟨F1, π1, g1, s1, (PoS.split p1).mono fun b π2 F2 H2 t2 s2 p2 => ?_⟩
      cases b with
      | false =>
        rw [if_neg Bool.false_ne_true] at p2 ⊢
        exact p2 F2 σ1 H2 .refl s2
      | true =>
        rw [if_pos rfl] at p2 ⊢
        refine ⟨fun σ' H' => ∃ F' π', w.g F' ∧ SR c F' π' σ' H' ∧ Tr F π σ H F' π' σ' H' ∧ PoS c w.W F' π' σ' H' (whileF m ft fb π') (flK c D π σ H), fun σ' H' q => ⟨m, Nat.lt_succ_self m, q⟩, ?_⟩
        refine ⟨F2, π2, w.mono _ _ t2.le g1, s2, (PoS.splitS p2).mono fun fl π4 F4 σ4 H4 t4 s4 p4 => ?_⟩
        cases fl with
        | nx => exact ⟨F4, π4, w.mono _ _ (t2.le.trans t4.le) g1, s4, (t1.trans t2).trans t4, p4⟩
        | ct => exact ⟨F4, π4, w.mono _ _ (t2.le.trans t4.le) g1, s4, (t1.trans t2).trans t4, p4⟩
        | bk => exact p4 F4 σ4 H4 .refl s4
        | rt r => exact flK.base (fl := .rt r) (p4 F4 σ4 H4 .refl s4) (t1.trans t2)

/-! ### comprehensions -/
/-- the slots of a comprehension's own names, emptied; put back -/
def wipeE (π : En) : List Nat → En
  | [] => π
  | v :: vs => (wipeE π vs).set v .no
def restE (π0 π : En) (vs : List Nat) : En := π.mapIdx fun j sl => if j ∈ vs then (match π0[j]? with
    | some (.val p) => .val p
    | _ => .no) else sl
def chk (vs : List Nat) (π : En) : Bool := vs.all fun v => match π[v]? with
  | none => false
  | some (.loan _) => false
  | some _ => true
/-- no exception may leave it -/
def lcLoop (t : TgF) (tt : M Bool) (fe : M P) (vs : List Nat) (π0 : En) : List P → List P → En → Out Rs
  | [], acc, π => .ok (.own (.lst acc)) (restE π0 π vs)
  | p :: ps, acc, π => match t p π with
    | none => .bad
    | some π1 => match tt π1 with
      | .ok false π2 => if chk vs π2 = true then lcLoop t tt fe vs π0 ps acc (wipeE π2 vs) else .bad
      | .ok true π2 => (match fe π2 with
        | .ok q π3 => if chk vs π3 = true then lcLoop t tt fe vs π0 ps (acc ++ [q]) (wipeE π3 vs) else .bad
        | _ => .bad)
      | _ => .bad
def lcF (fi : M (List P)) (t : TgF) (tt : M Bool) (fe : M P) (vs : List Nat) : M Rs := fun π => (fi π).bind fun ps π1 => if chk vs π1 = true then lcLoop t tt fe vs π1 ps [] (wipeE π1 vs) else .bad
def Ws.blk (w : Ws) : Ws := ⟨fun _ _ _ _ => False, w.g, w.mono⟩
section
variable {c : Ctx} {F F' H H' F0 H0 : Hp} {π π' π0 : En} {σ σ0 : L2.St} {vs : List Nat}
theorem wipeE_get : ∀ {vs : List Nat} {j : Nat}, (wipeE π vs)[j]? = if j ∈ vs ∧ j < π.length then some .no else π[j]?
  | [], j => by simp [wipeE]
  | v :: vs, j => by
    unfold wipeE
    have hl : (wipeE π vs).length = π.length := by
      clear wipeE_get
      induction vs with
      | nil => rfl
      | cons v vs ih => unfold wipeE; rw [List.length_set]; exact ih
    rw [List.getElem?_set, wipeE_get (vs := vs), hl]
    by_cases z : v = j
    · subst z
      by_cases h : v < π.length
      · simp [h]
      · simp [h]
    · by_cases h : j ∈ vs ∧ j < π.length
      · rw [if_neg z, if_pos h, if_pos ⟨List.mem_cons_of_mem _ h.1, h.2⟩]
      · rw [if_neg z, if_neg h, if_neg]
        rintro ⟨h1, h2⟩
        rcases List.mem_cons.mp h1 with e | e
        · exact z e.symm
        · exact h ⟨e, h2⟩
theorem wipe_get {σ : L2.St} : ∀ {vs : List Nat} {j : Nat}, (wipe σ vs)[j]? = if j ∈ vs ∧ j < σ.length then some none else σ[j]?
  | [], j => by simp [wipe]
  | v :: vs, j => by
    unfold wipe
    rw [List.getElem?_set, wipe_get (vs := vs), wipe_length]
    by_cases z : v = j
    · subst z
      by_cases h : v < σ.length
      · simp [h]
      · simp [h]
    · by_cases h : j ∈ vs ∧ j < σ.length
      · rw [if_neg z, if_pos h, if_pos ⟨List.mem_cons_of_mem _ h.1, h.2⟩]
      · rw [if_neg z, if_neg h, if_neg]
        rintro ⟨h1, h2⟩
        rcases List.mem_cons.mp h1 with e | e
        · exact z e.symm
        · exact h ⟨e, h2⟩
theorem chk_at (h : chk vs π = true) {v : Nat} (hv : v ∈ vs) : v < π.length ∧ ∀ o, π[v]? ≠ some (.loan o) := by
  have := List.all_eq_true.mp h v hv
  cases q : π[v]? with
  | none => rw [q] at this; cases this
  | some sl =>
    refine ⟨(List.getElem?_eq_some_iff.mp q).1, fun o e => ?_⟩
    cases e
    rw [q] at this; cases this
theorem wipe_ok (s : SR c F π σ H) : ∀ (vs : List Nat), (∀ v ∈ vs, v < π.length ∧ ∀ o, π[v]? ≠ some (.loan o)) → SR c F (wipeE π vs) (wipe σ vs) H ∧ ∀ F0 π0 σ0 H0, Tr F0 π0 σ0 H0 F π σ H → Tr F0 π0 σ0 H0 F (wipeE π vs) (wipe σ vs) H
  | [], _ => ⟨s, fun _ _ _ _ t => t⟩
  | v :: vs, h => by
    obtain ⟨s1, t1⟩ := wipe_ok s vs fun v' hv => h v' (List.mem_cons_of_mem _ hv)
    have hl : (wipeE π vs).length = π.length := by rw [s1.len, wipe_length, s.len]
    obtain ⟨h1, h2⟩ := h v List.mem_cons_self
    obtain ⟨s2, t2⟩ := s1.set (i := v) (by rw [hl]; exact h1) (fun o e => by
      rw [wipeE_get] at e
      split at e
      · cases e
      · exact h2 o e) .no none (fun p e => by cases e) (fun o e => by cases e) (fun o e => by cases e)
    exact ⟨s2, fun F0 π0 σ0 H0 t => t2 _ _ _ _ (t1 _ _ _ _ t) fun a e => by cases e⟩
/-- back in the comprehension's surroundings -/
theorem rest_ok (s : SR c F π σ H) (hc : chk vs π = true) (s' : SR c F' π' (wipe σ vs) H') (t : Tr F (wipeE π vs) (wipe σ vs) H F' π' (wipe σ vs) H') : SR c F' (restE π π' vs) σ H' ∧ Tr F π σ H F' (restE π π' vs) σ H' ∧ ∀ a, Own (restE π π' vs) σ a → Own π' (wipe σ vs) a := by
  have gr : ∀ j, (restE π π' vs)[j]? = (π'[j]?).map fun sl => if j ∈ vs then (match π[j]? with
    | some (.val p) => .val p
    | _ => .no) else sl := fun j => by unfold restE; rw [List.getElem?_mapIdx]
  have ow : ∀ (j : Nat) (sl : Sl) (o : O), (restE π π' vs)[j]? = some sl → sl.ow = some o → j ∉ vs ∧ π'[j]? = some sl := fun j sl o e1 e2 => by
    rw [gr] at e1
    cases q : π'[j]? with
    | none => rw [q] at e1; cases e1
    | some sl' =>
      rw [q] at e1
      by_cases z : j ∈ vs
      · have e3 : (match π[j]? with | some (.val p) => Sl.val p | _ => .no) = sl := by
          have := Option.some.inj e1
          simp only [if_pos z] at this
          exact this
        cases q2 : π[j]? with
        | none => rw [q2] at e3; subst e3; cases e2
        | some sl2 => rw [q2] at e3; cases sl2 <;> (subst e3; cases e2)
      · have e3 := Option.some.inj e1
        simp only [if_neg z] at e3
        exact ⟨z, by rw [e3]⟩
  have sg : ∀ j, j ∉ vs → (wipe σ vs)[j]? = σ[j]? := fun j z => by rw [wipe_get, if_neg fun h => z h.1]
  have ownW : ∀ a, Own (wipeE π vs) (wipe σ vs) a → Own π σ a := fun a ⟨j, sl, o, e1, e2, e3⟩ => by
    rw [wipeE_get] at e1
    rw [wipe_get] at e3
    split at e1
    · cases e1; cases e2
    · split at e3
      · cases e3
      · exact ⟨j, sl, o, e1, e2, e3⟩
  have ownR : ∀ a, Own (restE π π' vs) σ a → Own π' (wipe σ vs) a := fun a ⟨j, sl, o, e1, e2, e3⟩ => by
    obtain ⟨z, h1⟩ := ow j sl o e1 e2
    exact ⟨j, sl, o, h1, e2, by rw [sg j z]; exact e3⟩
  refine ⟨⟨s'.le, by unfold restE; rw [List.length_mapIdx, s'.len, wipe_length], fun j p e => ?_, fun j sl o e1 e2 => ?_, fun j k s1 s2 o1 o2 b e1 e2 e3 e4 e5 e6 => ?_⟩,
    ⟨t.le, fun a o h n => t.keep a o h fun z => n (ownW a z), fun a h => (t.new a h).imp id (Or.imp id (ownW a)), fun a h => (t.own a (ownR a h)).imp id (ownW a), fun j o e => ⟨rfl, ?_⟩⟩, ownR⟩
  · rw [gr] at e
    cases q : π'[j]? with
    | none => rw [q] at e; cases e
    | some sl' =>
      rw [q] at e
      have e3 := Option.some.inj e
      by_cases z : j ∈ vs
      · simp only [if_pos z] at e3
        cases q2 : π[j]? with
        | none => rw [q2] at e3; cases e3
        | some sl2 =>
          rw [q2] at e3
          cases sl2 with
          | val p' =>
            cases e3
            obtain ⟨v, e4, h1⟩ := s.vl j p q2
            exact ⟨v, e4, Rp.mono t.le _ _ h1⟩
          | no => cases e3
          | own o => cases e3
          | loan o => cases e3
      · simp only [if_neg z] at e3
        subst e3
        rw [← sg j z]
        exact s'.vl j p q
  · obtain ⟨z, h1⟩ := ow j sl o e1 e2
    rw [← sg j z]
    exact s'.ow j sl o h1 e2
  · obtain ⟨z1, h1⟩ := ow j s1 o1 e1 e2
    obtain ⟨z2, h2⟩ := ow k s2 o2 e3 e4
    exact s'.dj j k s1 s2 o1 o2 b h1 e2 h2 e4 (by rw [sg j z1]; exact e5) (by rw [sg k z2]; exact e6)
  · have z : j ∉ vs := fun z => (chk_at hc z).2 o e
    obtain ⟨_, o', h1⟩ := t.ln j o (by rw [wipeE_get, if_neg fun h => z h.1]; exact e)
    exact ⟨o', by rw [gr, h1]; show some (if j ∈ vs then _ else _) = _; rw [if_neg z]⟩
end
section
variable {c : Ctx} {F F0 H H0 : Hp} {π π0 : En} {σ σ0 : L2.St} {D : Addr} {o : HO}
theorem SR.other (s : SR c F π σ H) (hF : F D = none) (hn : ¬ Own π σ D) : SR c F π σ (L2.upd H D o) where
  le := s.le.updR _ hF
  len := s.len
  vl := s.vl
  ow := fun i sl o e1 e2 => by
    obtain ⟨b, e3, h1, h2⟩ := s.ow i sl o e1 e2
    exact ⟨b, e3, h1, h2.step (Le.refl F) fun u q => by rw [upd_ne fun z => hn ⟨i, sl, o, e1, e2, by rw [← z]; exact e3⟩]; exact q⟩
  dj := s.dj
theorem Tr.other (t : Tr F0 π0 σ0 H0 F π σ H) (h0 : H0 D = none) : Tr F0 π0 σ0 H0 F π σ (L2.upd H D o) :=
  ⟨t.le, fun a u h n => by rw [upd_ne (ne_of_none h h0)]; exact t.keep a u h n, t.new, t.own, t.ln⟩
end
def LcInv (c : Ctx) (w : Ws) (t : TgF) (tt : M Bool) (fe : M P) (vs : List Nat) (F1 : Hp) (π1 : En) (σ : L2.St) (H1 : Hp) (ps : List P) (K : Rs → En → Hp → Hp → Prop) (D : Addr) (i : Nat) (H' : Hp) : Prop :=
  ∃ F' π' acc va, Le F1 F' ∧ w.g F' ∧ SR c F' π' (wipe σ vs) H' ∧ H' D = some (.lst va) ∧ Rps c F' acc va ∧ acc.length ≤ i ∧ F' D = none ∧ ¬ Own π' (wipe σ vs) D ∧ Tr F1 (wipeE π1 vs) (wipe σ vs) H1 F' π' (wipe σ vs) H' ∧
    Po c w.W F1 π1 σ H1 (lcLoop t tt fe vs π1 (ps.drop i) acc π') K
section
variable {X : Cx} {c : Ctx} {w : Ws} {elt tg iter : Expr} {ifs : List Expr} {scope : Scope} {own : List (Str × Nat)} {pos : Pos} {fi : M (List P)} {t : TgF} {ft : M Bool} {fe : M P} {sl : List Nat}
theorem wipe_same {σ σ2 : L2.St} {vs : List Nat} (h : ∀ j, j ∉ vs → σ2[j]? = (wipe σ vs)[j]?) (hl : σ2.length = σ.length) : wipe σ2 vs = wipe σ vs := by
  apply List.ext_getElem?
  intro j
  rw [wipe_get, wipe_get, hl]
  by_cases z : j ∈ vs
  · by_cases q : j < σ.length
    · rw [if_pos ⟨z, q⟩, if_pos ⟨z, q⟩]
    · rw [if_neg fun h => q h.2, if_neg fun h => q h.2, List.getElem?_eq_none (by omega), List.getElem?_eq_none (by omega)]
  · rw [if_neg fun h => z h.1, if_neg fun h => z h.1, h j z, wipe_get, if_neg fun h => z h.1]
theorem lc_weak (hsl : ∀ j ∈ sl, j ∈ own.map (·.2)) : ∀ σ H Q, tE c w (lcF fi t ft fe (own.map (·.2))) σ H Q → tLc (tI c w fi) (tG c w.blk sl t) (tT c w.blk ft) (tV c w.blk fe) (own.map (·.2)) σ H Q := fun σ H Q ⟨F, π, gg, s, po⟩ => by
  generalize own.map (·.2) = vs at *
  refine ⟨F, π, gg, s, (Po.split po).mono fun ps π1 F1 H1 t1 s1 p1 J wk hlen D hD => ?_⟩
  by_cases hc : chk vs π1 = true
  case neg => rw [if_neg hc] at p1; exact p1.elim
  rw [if_pos hc] at p1
  have g1 := w.mono _ _ t1.le gg
  have gD : Gr F1 H1 F1 (L2.upd H1 D (.lst [])) := gr_lst s1.le hD
  obtain ⟨sw, tw⟩ := wipe_ok s1 vs fun v hv => chk_at hc hv
  have tw1 := tw _ _ _ _ (Tr.refl (F := F1) (π := π1) (σ := σ) (H := H1))
  have ownW : ∀ a, Own (wipeE π1 vs) (wipe σ vs) a → Own π1 σ a := fun a ⟨j, sl, o, e1, e2, e3⟩ => by
    rw [wipeE_get] at e1
    rw [wipe_get] at e3
    split at e1
    · cases e1; cases e2
    · split at e3
      · cases e3
      · exact ⟨j, sl, o, e1, e2, e3⟩
  refine ⟨fun i m H' => m = ps.length - i ∧ i ≤ ps.length ∧ LcInv c w t ft fe vs F1 π1 σ H1 ps (fun r π' F' H' => ∀ v, RR c π H F' π' σ H' r v → Q v H') D i H',
    ⟨_, rfl, Nat.zero_le _, F1, wipeE π1 vs, [], [], Le.refl _, g1, gD.sr sw, upd_same, rps_nil, Nat.le_refl _, s1.le.gone hD, fun z => ?_, gD.tr, p1⟩, ?_⟩
  · obtain ⟨u, hu⟩ := own_some sw z
    rw [hD] at hu; cases hu
  rintro i m H' ⟨rfl, hi, F', π', acc, va, l1, g', s', hDa, ra, hal, hFD, hnD, t', po'⟩
  by_cases hlt : i < ps.length
  · refine .inr ⟨wk.go i H' (l1.trans s'.le) hlt, fun H2 => (ps.length - (i + 1)) = ps.length - (i + 1) ∧ i + 1 ≤ ps.length ∧ LcInv c w t ft fe vs F1 π1 σ H1 ps (fun r π' F' H' => ∀ v, RR c π H F' π' σ H' r v → Q v H') D (i + 1) H2,
      fun H2 q => ⟨ps.length - (i + 1), by omega, q⟩, fun x H2 y => ?_⟩
    obtain ⟨F2, gr, rx⟩ := wk.yld i ps[i] F' H' x H2 l1 s'.le (List.getElem?_eq_getElem hlt) y
    rw [List.drop_eq_getElem_cons hlt] at po'
    have s2 := gr.sr s'
    have t2 := t'.trans (gr.tr (π := π') (σ := wipe σ vs))
    have hD2 : H2 D = some (.lst va) := gr.keep D _ hDa
    have hF2 : F2 D = none := by
      cases q : F2 D with
      | none => rfl
      | some x =>
        rcases gr.new D (by rw [q]; exact fun z => nomatch z) with z | z
        · exact absurd hFD z
        · rw [hDa] at z; cases z
    refine ⟨F2, π', ps[i], w.mono _ _ gr.le g', s2, rx, ?_⟩
    unfold lcLoop at po'
    cases e1 : t ps[i] π' with
    | none => simp only [e1] at po'; exact po'.elim
    | some π2 =>
      simp only [e1] at po'
      intro σ3 s3 t3 k3 n3
      have hw : wipe σ3 vs = wipe σ vs := wipe_same (fun j z => k3 j fun q => z (hsl j q)) (by rw [n3, wipe_length])
      have tb : Tr F' π' (wipe σ vs) H' F2 π2 σ3 H2 := (gr.tr (π := π') (σ := wipe σ vs)).trans t3
      refine ⟨hw, F2, π2, w.mono _ _ gr.le g', s3, ?_⟩
      -- where a turn ends
      have fin : ∀ {π4 : En} {F4 H4 : Hp}, chk vs π4 = true → Tr F2 π2 σ3 H2 F4 π4 σ3 H4 → SR c F4 π4 σ3 H4 → SR c F4 (wipeE π4 vs) (wipe σ vs) H4 ∧ Tr F1 (wipeE π1 vs) (wipe σ vs) H1 F4 (wipeE π4 vs) (wipe σ vs) H4 ∧ H4 D = some (.lst va) ∧ F4 D = none ∧ ¬ Own (wipeE π4 vs) (wipe σ vs) D := fun {π4 F4 H4} hc4 t4 s4 => by
        obtain ⟨s6, t6⟩ := wipe_ok s4 vs fun v hv => chk_at hc4 hv
        have tl := t6 _ _ _ _ (tb.trans t4)
        rw [hw] at s6 tl
        refine ⟨s6, t'.trans tl, tl.keep D _ hDa hnD, ?_, fun z => ?_⟩
        · cases q : F4 D with
          | none => rfl
          | some x =>
            rcases tl.new D (by rw [q]; exact fun z => nomatch z) with z | z | z
            · exact absurd hFD z
            · rw [hDa] at z; cases z
            · exact absurd z hnD
        · rcases tl.own D z with q | q
          · rw [hDa] at q; cases q
          · exact hnD q
      cases e2 : ft π2 with
      | bad => simp only [e2] at po'; exact po'.elim
      | exc C qs π4 => simp only [e2] at po'; exact po'.elim
      | ok b π4 =>
        intro F4 H4 t4 s4
        have l4 : Le F1 F4 := (l1.trans gr.le).trans t4.le
        have g4 := w.mono _ _ (gr.le.trans t4.le) g'
        cases b with
        | false =>
          simp only [e2] at po'
          by_cases hc4 : chk vs π4 = true
          case neg => rw [if_neg hc4] at po'; exact po'.elim
          rw [if_pos hc4] at po'
          obtain ⟨s6, tl, d1, d2, d3⟩ := fin hc4 t4 s4
          refine iteF ?_
          exact ⟨rfl, hlt, F4, _, acc, va, l4, g4, s6, d1, Rps.mono (gr.le.trans t4.le) _ _ ra, by omega, d2, d3, tl, po'⟩
        | true =>
          simp only [e2] at po'
          refine iteT ?_
          refine ⟨F4, π4, g4, s4, ?_⟩
          cases e3 : fe π4 with
          | bad => simp only [e3] at po'; exact po'.elim
          | exc C qs π5 => simp only [e3] at po'; exact po'.elim
          | ok q π5 =>
            simp only [e3] at po'
            by_cases hc5 : chk vs π5 = true
            case neg => rw [if_neg hc5] at po'; exact po'.elim
            rw [if_pos hc5] at po'
            intro F5 H5 t5 s5 y hy
            obtain ⟨s6, tl, d1, d2, d3⟩ := fin hc5 (t4.trans t5) s5
            have hva : va.length = acc.length := (rps_len ra).symm
            refine ⟨va, d1, by omega, rfl, hlt, F5, _, acc ++ [q], va ++ [y], l4.trans t5.le, w.mono _ _ t5.le g4, s6.other d2 d3, upd_same, rps_append (Rps.mono ((gr.le.trans t4.le).trans t5.le) _ _ ra) (rps_cons hy rps_nil), by simp; omega, d2, d3, tl.other hD, po'⟩
  · have e : i = ps.length := by omega
    subst e
    rw [List.drop_length] at po'
    obtain ⟨s5, t5, ow5⟩ := rest_ok s1 hc s' t'
    exact .inl ⟨wk.stop H' (l1.trans s'.le), po' F' H' t5 s5 _ ⟨D, rfl, hFD, fun z => hnD (ow5 D z), ⟨va, hDa, ra⟩, Fr0.back t1 (.inl hD)⟩⟩
theorem p_lc (hsl : ∀ j ∈ sl, j ∈ own.map (·.2)) (hc : X.calm = true) (hN : X.N.Nodup) (hi : PI X tg iter (tI c w fi)) (ok : BlkOk X.N X.env.scope scope own)
    (hg : ∀ (s : Shared) (H : Hp) (C : Addr) (cl : List (Str × Addr)) (fp : List Addr), PG (X.blk s H scope (compEnvC scope cl C X.env) fp) tg (tG c w.blk sl t)) (ht : ∀ (s : Shared) (H : Hp) (C : Addr) (cl : List (Str × Addr)) (fp : List Addr), PTs (X.blk s H scope (compEnvC scope cl C X.env) fp) ifs (tT c w.blk ft))
    (he : ∀ (s : Shared) (H : Hp) (C : Addr) (cl : List (Str × Addr)) (fp : List Addr), PE (X.blk s H scope (compEnvC scope cl C X.env) fp) elt (tV c w.blk fe)) (hs : ∀ x, foldedSetIterable iter X.env x = pure x := by intro _; rfl) :
    PE X (.ListComp elt [⟨tg, iter, ifs, 0⟩] scope pos) (tE c w (lcF fi t ft fe (own.map (·.2)))) := pe_weak (pe_lc hc hN hi ok hg ht he hs) (lc_weak hsl)
def yesF : M Bool := fun π => .ok true π
theorem t_yes {X : Cx} {c : Ctx} {w : Ws} : PTs X [] (tT c w yesF) := ⟨fun pins s σ H Q I ⟨F, π, gg, sr, po⟩ => pts_nil.run pins s σ H Q I (po F H .refl sr)⟩
theorem t_one {X : Cx} {c : Ctx} {w : Ws} {e : Expr} {f : M Bool} (h : PT X e (tT c w f)) : PTs X [e] (tT c w f) := pts_one h
/-- y = [..] on one line -/
theorem s_setLc {i : Nat} {y : Str} {py spos : Pos} (hsl : ∀ j ∈ sl, j ∈ own.map (·.2)) (hc : X.calm = true) (hN : X.N.Nodup) (hy : X.N[i]? = some y) (hyl : X.env.scope.names.lookup y = some .local)
    (hsw : swapsWith (.ListComp elt [⟨tg, iter, ifs, 0⟩] scope pos) (some (.Name y py)) spos.line X.env = pure true) (hi : PI X tg iter (tI c w fi)) (ok : BlkOk X.N X.env.scope scope own)
    (hg : ∀ (s : Shared) (H : Hp) (C : Addr) (cl : List (Str × Addr)) (fp : List Addr), PG (X.blk s H scope (compEnvC scope cl C X.env) fp) tg (tG c w.blk sl t)) (ht : ∀ (s : Shared) (H : Hp) (C : Addr) (cl : List (Str × Addr)) (fp : List Addr), PTs (X.blk s H scope (compEnvC scope cl C X.env) fp) ifs (tT c w.blk ft))
    (he : ∀ (s : Shared) (H : Hp) (C : Addr) (cl : List (Str × Addr)) (fp : List Addr), PE (X.blk s H scope (compEnvC scope cl C X.env) fp) elt (tV c w.blk fe)) (hs : ∀ x, foldedSetIterable iter X.env x = pure x := by intro _; rfl) :
    PS X (.Assign [.Name y py] (.ListComp elt [⟨tg, iter, ifs, 0⟩] scope pos) spos) (tS c w (setF i (lcF fi t ft fe (own.map (·.2))))) :=
  ps_weak (ps_setLc (i := i) hc hN hy hyl hsw hi ok hg ht he hs) fun D σ H ⟨F, π, gg, s, po⟩ => by
    refine lc_weak hsl σ H _ ⟨F, π, gg, s, ?_⟩
    unfold setF at po
    cases e0 : lcF fi t ft fe (own.map (·.2)) π with
    | bad => rw [e0] at po; exact po
    | exc C ps π1 => rw [e0] at po; exact fun F' H' d t s => po F' σ H' d t s
    | ok r π1 =>
      rw [e0] at po
      intro F1 H1 t s1 v hr
      obtain ⟨π', k⟩ := set_post s1 hr t po
      exact k
end
end PV

namespace PV
open PySem L2 PyProof.Rows

theorem OpR.or {X : Cx} {f : Value → Value → Sem Value} {r r' : R2} (h : OpR X f r) (h' : OpR X f r') : OpR X f (fun x y H Q => r x y H Q ∨ r' x y H Q) := by
  intro pins s σ H x y v u Q I rx ry q
  rcases q with q | q
  · exact h pins s σ H x y v u Q I rx ry q
  · exact h' pins s σ H x y v u Q I rx ry q
theorem CallR.or {X : Cx} {f : Value} {r r' : List V → Hp → VK → Prop} (h : CallR X f r) (h' : CallR X f r') : CallR X f (fun x H Q => r x H Q ∨ r' x H Q) := by
  intro pins s σ H x v Q I rx q
  rcases q with q | q
  · exact h pins s σ H x v Q I rx q
  · exact h' pins s σ H x v Q I rx q
abbrev ib (b : Bool) : Option Rv := some (.val (.bl b))
abbrev ii (i : Int) : Option Rv := some (.val (.int i))
section
variable {c : Ctx} {F H : Hp} {Q : VK} {v : V}
/-- the answer is a value without objects -/
theorem give {p : P} (l : Le F H) (k : ∀ v F' H', Gr F H F' H' → RN c H F' H' (.val p) v → Q v H') (h : Rp c F p v) : Q v H := k v F H (Gr.refl l) h
end

/-! ### + -/
def addP : P → P → Option Rv
  | .int i, .int j => ii (i + j)
  | .str x, .str y => if x.length + y.length ≤ 1000000 then some (.val (.str (x ++ y))) else none
  | .tup xs, .tup ys => if xs.length + ys.length ≤ 1000000 then some (.val (.tup (xs ++ ys))) else none
  | .lst xs, .lst ys => if xs.length + ys.length ≤ 1000000 then some (.own (.lst (xs ++ ys))) else none
  | _, _ => none
def rAdd4 (K : PySem.W.Frag) : R2 := fun x y H Q => (rI0 (fun i j => .int (i + j)) x y H Q ∨ (∃ i j, x = .str i ∧ y = .str j ∧ i.length + j.length ≤ sizeLine ∧ Q (.str (i ++ j)) H)) ∨ (rCatA K x y H Q ∨ rCat x y H Q)
theorem op_add4 {X : Cx} : OpR X (binaryOp .Add) (rAdd4 X.K) := OpR.or (OpR.or op_add op_add_str) (OpR.or op_catA op_cat)
theorem v_add {c : Ctx} : OpV c (rAdd4 c.K) addP := by
  intro F H p1 p2 x y res Q l h1 h2 e k
  have hs := sizeLine_eq
  unfold addP at e
  split at e
  · cases e
    cases h1.int; cases h2.int
    exact .inl (.inl ⟨_, _, rfl, rfl, give l k mk_int⟩)
  · split at e
    · cases e
      cases h1.str; cases h2.str
      exact .inl (.inr ⟨_, _, rfl, rfl, by omega, give l k mk_str⟩)
    · cases e
  · split at e
    · rename_i xs ys hl
      cases e
      obtain ⟨a, vs, rfl, q1, r1, p1⟩ := h1.tup l
      obtain ⟨b, ws, rfl, q2, r2, p2⟩ := h2.tup l
      have n1 := rps_len r1
      have n2 := rps_len r2
      refine .inr (.inl ⟨a, b, vs, ws, rfl, rfl, q1, q2, by omega, fun z => ?_, fun _ z => ?_, fun _ _ p hp => ?_⟩)
      · have z1 : xs = [] := List.eq_nil_of_length_eq_zero (by rw [n1, z]; rfl)
        subst z1
        exact give l k p2
      · have z1 : ys = [] := List.eq_nil_of_length_eq_zero (by rw [n2, z]; rfl)
        subst z1
        exact give l k (by rw [List.append_nil]; exact p1)
      · exact k _ _ _ (gr_tup l hp) (rn_tup l hp (rps_append r1 r2))
    · cases e
  · split at e
    · rename_i xs ys hl
      cases e
      obtain ⟨a, vs, rfl, q1, r1⟩ := h1.lst l
      obtain ⟨b, ws, rfl, q2, r2⟩ := h2.lst l
      have n1 := rps_len r1
      have n2 := rps_len r2
      exact .inr (.inr ⟨a, b, vs, ws, rfl, rfl, q1, q2, by omega, fun p hp => k _ _ _ (gr_lst l hp) (rn_lst l hp (rps_append r1 r2))⟩)
    · cases e
  · cases e
/-! ### ints -/
def subP : P → P → Option Rv
  | .int i, .int j => ii (i - j)
  | _, _ => none
theorem v_sub {c : Ctx} : OpV c (rI0 fun i j => .int (i - j)) subP := by
  intro F H p1 p2 x y res Q l h1 h2 e k
  unfold subP at e
  split at e
  · cases e
    cases h1.int; cases h2.int
    exact ⟨_, _, rfl, rfl, give l k mk_int⟩
  · cases e
def mulP : P → P → Option Rv
  | .int i, .int j => if i.natAbs.log2 + j.natAbs.log2 < 1000000 then ii (i * j) else none
  | .lst xs, .int j => if xs.length ≤ 1000 ∧ -1000 ≤ j ∧ j ≤ 1000 then some (.own (.lst (List.replicate j.toNat xs).flatten)) else none
  | .tup xs, .int j => if xs ≠ [] ∧ xs.length ≤ 1000 ∧ 2 ≤ j ∧ j ≤ 1000 then some (.val (.tup (List.replicate j.toNat xs).flatten)) else none
  | _, _ => none
theorem rps_rep {c : Ctx} {H : Hp} {ps : List P} {vs : List V} (r : Rps c H ps vs) : ∀ n : Nat, Rps c H (List.replicate n ps).flatten (List.replicate n vs).flatten
  | 0 => rps_nil
  | n + 1 => by
    rw [List.replicate_succ, List.replicate_succ, List.flatten_cons, List.flatten_cons]
    exact rps_append r (rps_rep r n)

def rMul3 (K : PySem.W.Frag) : R2 := fun x y H Q => rI CMulW (fun i j => .int (i * j)) x y H Q ∨ (rRep x y H Q ∨ rRepT K x y H Q)
theorem op_mul3 {X : Cx} : OpR X (binaryOp .Mult) (rMul3 X.K) := OpR.or op_mulW (OpR.or op_rep op_repT)
theorem v_mul {c : Ctx} : OpV c (rMul3 c.K) mulP := by
  intro F H p1 p2 x y res Q l h1 h2 e k
  have hs := sizeLine_eq
  unfold mulP at e
  split at e
  · split at e
    · rename_i hb
      cases e
      cases h1.int; cases h2.int
      exact .inl ⟨_, _, rfl, rfl, hb, give l k mk_int⟩
    · cases e
  · split at e
    · rename_i xs j hb
      cases e
      obtain ⟨a, vs, rfl, q1, r1⟩ := h1.lst l
      cases h2.int
      have n1 := rps_len r1
      refine .inr (.inl ⟨a, j, vs, rfl, rfl, q1, by omega, by omega, ?_, fun p hp => k _ _ _ (gr_lst l hp) (rn_lst l hp (rps_rep r1 _))⟩)
      have a1 : vs.length * j.toNat ≤ 1000 * 1000 := Nat.mul_le_mul (by omega) (by omega)
      omega
    · cases e
  · split at e
    · rename_i xs j hb
      cases e
      obtain ⟨a, vs, rfl, q1, r1, _⟩ := h1.tup l
      cases h2.int
      have n1 := rps_len r1
      exact .inr (.inr ⟨a, j, vs, rfl, rfl, q1, fun z => hb.1 (List.eq_nil_of_length_eq_zero (by rw [n1, z]; rfl)), hb.2.2.1, hb.2.2.2, by omega, fun p hp => k _ _ _ (gr_tup l hp) (rn_tup l hp (rps_rep r1 _))⟩)
    · cases e
  · cases e
def modP : P → P → Option Rv
  | .int i, .int j => if 0 < j then ii (i % j) else none
  | _, _ => none
theorem v_mod {c : Ctx} : OpV c (rI (fun _ j => 0 < j) fun i j => .int (i % j)) modP := by
  intro F H p1 p2 x y res Q l h1 h2 e k
  unfold modP at e
  split at e
  · split at e
    · rename_i hb
      cases e
      cases h1.int; cases h2.int
      exact ⟨_, _, rfl, rfl, hb, give l k mk_int⟩
    · cases e
  · cases e
def fdivP : P → P → Option Rv
  | .int i, .int j => if 0 < j ∧ j.natAbs.log2 < 9000 then ii (i / j) else none
  | _, _ => none
theorem v_fdiv {c : Ctx} : OpV c (rI CDivW fun i j => .int (i / j)) fdivP := by
  intro F H p1 p2 x y res Q l h1 h2 e k
  unfold fdivP at e
  split at e
  · split at e
    · rename_i hb
      cases e
      cases h1.int; cases h2.int
      exact ⟨_, _, rfl, rfl, hb, give l k mk_int⟩
    · cases e
  · cases e
def powP : P → P → Option Rv
  | .int i, .int j => if 0 ≤ j ∧ j ≤ 1000 ∧ i.natAbs < 2 ^ 64 then ii (i ^ j.toNat) else none
  | _, _ => none
theorem v_pow {c : Ctx} : OpV c (rI CPow fun i j => .int (i ^ j.toNat)) powP := by
  intro F H p1 p2 x y res Q l h1 h2 e k
  unfold powP at e
  split at e
  · split at e
    · rename_i hb
      cases e
      cases h1.int; cases h2.int
      exact ⟨_, _, rfl, rfl, ⟨hb.1, by omega, hb.2.2⟩, give l k mk_int⟩
    · cases e
  · cases e
def negP : P → Option Rv
  | .int i => ii (-i)
  | _ => none
theorem v_neg {c : Ctx} : UnV c (rU fun i => .int (-i)) negP := by
  intro F H p x res Q l h e k
  unfold negP at e
  split at e
  · cases e
    cases h.int
    exact ⟨_, rfl, give l k mk_int⟩
  · cases e
/-! ### order of ints -/
def cmpP (g : Int → Int → Bool) : P → P → Option Rv
  | .int i, .int j => ib (g i j)
  | _, _ => none
theorem v_cmp {c : Ctx} {g : Int → Int → Bool} : OpV c (rI0 fun i j => .bl (g i j)) (cmpP g) := by
  intro F H p1 p2 x y res Q l h1 h2 e k
  unfold cmpP at e
  split at e
  · cases e
    cases h1.int; cases h2.int
    exact ⟨_, _, rfl, rfl, give l k mk_bl⟩
  · cases e
def ltP := cmpP fun i j => decide (i < j)
def leP := cmpP fun i j => decide (i ≤ j)
def gtP := cmpP fun i j => decide (j < i)
def geP := cmpP fun i j => decide (j ≤ i)
/-! ### data -/
mutual
def toD : P → PyData
  | .non => .none
  | .bl b => .bool b
  | .int i => .int i
  | .str x => .str x
  | .tup xs => .tuple (toDs xs)
  | .lst xs => .list (toDs xs)
  | _ => .none
def toDs : List P → List PyData
  | [] => []
  | p :: ps => toD p :: toDs ps
end
theorem toDs_map : ∀ ps : List P, toDs ps = ps.map toD
  | [] => rfl
  | p :: ps => by unfold toDs; rw [toDs_map ps]; rfl
/-- data of depth up to n -/
def dat : Nat → P → Bool
  | _, .non => true
  | _, .bl _ => true
  | _, .int _ => true
  | _, .str x => PyData.strOk x
  | n + 1, .tup xs => xs.all (dat n)
  | n + 1, .lst xs => xs.all (dat n)
  | _, _ => false
theorem dat_lay : ∀ (n : Nat) (p : P), dat n p = true → (toD p).canLay0 = true ∧ (toD p).depth ≤ n
  | n, .non, _ => by unfold toD; exact ⟨rfl, by simp [PyData.depth]⟩
  | n, .bl _, _ => by unfold toD; exact ⟨rfl, by simp [PyData.depth]⟩
  | n, .int _, _ => by unfold toD; exact ⟨rfl, by simp [PyData.depth]⟩
  | n, .str x, h => by
    unfold toD
    refine ⟨?_, by simp [PyData.depth]⟩
    unfold dat at h
    unfold PyData.canLay0
    exact h
  | 0, .tup xs, h => by simp [dat] at h
  | 0, .lst xs, h => by simp [dat] at h
  | n + 1, .tup xs, h => by
    unfold dat at h
    have ih := fun q hq => dat_lay n q (List.all_eq_true.mp h q hq)
    have key : ∀ l : List P, (∀ q ∈ l, (toD q).canLay0 = true ∧ (toD q).depth ≤ n) → PyData.canLayAll0 (toDs l) = true ∧ PyData.depthAll (toDs l) ≤ n := by
      intro l
      induction l with
      | nil => intro _; exact ⟨rfl, by simp [toDs, PyData.depthAll]⟩
      | cons q l ihl =>
        intro hl
        obtain ⟨a, b⟩ := hl q List.mem_cons_self
        obtain ⟨a2, b2⟩ := ihl fun q hq => hl q (List.mem_cons_of_mem _ hq)
        unfold toDs PyData.canLayAll0 PyData.depthAll
        exact ⟨by rw [a, a2]; rfl, by omega⟩
    obtain ⟨a, b⟩ := key xs ih
    unfold toD PyData.canLay0 PyData.depth
    exact ⟨a, by omega⟩
  | n + 1, .lst xs, h => by
    unfold dat at h
    have ih := fun q hq => dat_lay n q (List.all_eq_true.mp h q hq)
    have key : ∀ l : List P, (∀ q ∈ l, (toD q).canLay0 = true ∧ (toD q).depth ≤ n) → PyData.canLayAll0 (toDs l) = true ∧ PyData.depthAll (toDs l) ≤ n := by
      intro l
      induction l with
      | nil => intro _; exact ⟨rfl, by simp [toDs, PyData.depthAll]⟩
      | cons q l ihl =>
        intro hl
        obtain ⟨a, b⟩ := hl q List.mem_cons_self
        obtain ⟨a2, b2⟩ := ihl fun q hq => hl q (List.mem_cons_of_mem _ hq)
        unfold toDs PyData.canLayAll0 PyData.depthAll
        exact ⟨by rw [a, a2]; rfl, by omega⟩
    obtain ⟨a, b⟩ := key xs ih
    unfold toD PyData.canLay0 PyData.depth
    exact ⟨a, by omega⟩
  | n, .dct .., h => by cases n <;> simp [dat] at h
  | n, .obj .., h => by cases n <;> simp [dat] at h
  | n, .fn .., h => by cases n <;> simp [dat] at h
  | n, .scr .., h => by cases n <;> simp [dat] at h
  | n, .ty .., h => by cases n <;> simp [dat] at h
  | n, .cls .., h => by cases n <;> simp [dat] at h
theorem dat_shaped {p : P} (h : dat 60 p = true) : SeqAt.shaped (toD p) = true := by
  obtain ⟨a, b⟩ := dat_lay 60 p h
  unfold SeqAt.shaped
  rw [a, decide_eq_true (by omega)]
  rfl
mutual
theorem dp_of {c : Ctx} {H : Hp} : ∀ (n : Nat) (p : P) (v : V), dat n p = true → Rp c H p v → Dp c.K H v (toD p)
  | _, .non, _, _, r => by rw [rp_non r]; unfold toD; exact .non
  | _, .bl b, _, _, r => by rw [rp_bl r]; unfold toD; exact .bl b
  | _, .int i, _, _, r => by rw [rp_int r]; unfold toD; exact .int i
  | _, .str x, _, _, r => by rw [rp_str r]; unfold toD; exact .str x
  | 0, .tup xs, _, h, _ => by simp [dat] at h
  | 0, .lst xs, _, h, _ => by simp [dat] at h
  | n + 1, .tup xs, _, h, r => by
    obtain ⟨a, vs, rfl, q, r2⟩ := rp_tup r
    unfold dat at h
    unfold toD
    exact .tup q (dps_of n xs vs h r2)
  | n + 1, .lst xs, _, h, r => by
    obtain ⟨a, vs, rfl, q, r2⟩ := rp_lst r
    unfold dat at h
    unfold toD
    exact .lst (.of q) (dps_of n xs vs h r2)
  | n, .dct .., _, h, _ => by cases n <;> simp [dat] at h
  | n, .obj .., _, h, _ => by cases n <;> simp [dat] at h
  | n, .fn .., _, h, _ => by cases n <;> simp [dat] at h
  | n, .scr .., _, h, _ => by cases n <;> simp [dat] at h
  | n, .ty .., _, h, _ => by cases n <;> simp [dat] at h
  | n, .cls .., _, h, _ => by cases n <;> simp [dat] at h
theorem dps_of {c : Ctx} {H : Hp} : ∀ (n : Nat) (ps : List P) (vs : List V), ps.all (dat n) = true → Rps c H ps vs → DpAll c.K H vs (toDs ps)
  | _, [], _, _, r => by rw [rps_nil_inv r]; unfold toDs; exact .nil
  | n, p :: ps, _, h, r => by
    obtain ⟨v, l, rfl, r1, r2⟩ := rps_inv r
    rw [List.all_cons, Bool.and_eq_true] at h
    unfold toDs
    exact .cons (dp_of n p v h.1 r1) (dps_of n ps l h.2 r2)
end
def eqv (p q : P) : Bool := PyData.eqv (toD p) (toD q)
def eqP (p q : P) : Option Rv := if dat 60 p = true ∧ dat 60 q = true then ib (eqv p q) else none
def neP (p q : P) : Option Rv := if dat 60 p = true ∧ dat 60 q = true then ib (!eqv p q) else none
theorem v_eq {c : Ctx} : OpV c (rEqD c.K) eqP := by
  intro F H p1 p2 x y res Q l h1 h2 e k
  unfold eqP at e
  split at e
  · rename_i hd
    cases e
    exact ⟨_, _, dp_of 60 p1 x hd.1 (h1.rpH l), dp_of 60 p2 y hd.2 (h2.rpH l), dat_shaped hd.1, dat_shaped hd.2, give l k mk_bl⟩
  · cases e
theorem v_ne {c : Ctx} : OpV c (rNeD c.K) neP := by
  intro F H p1 p2 x y res Q l h1 h2 e k
  unfold neP at e
  split at e
  · rename_i hd
    cases e
    exact ⟨_, _, dp_of 60 p1 x hd.1 (h1.rpH l), dp_of 60 p2 y hd.2 (h2.rpH l), dat_shaped hd.1, dat_shaped hd.2, give l k mk_bl⟩
  · cases e
/-! x in xs (a list) -/
def inLP (neg : Bool) : P → P → Option Rv
  | p, .lst ps => if dat 60 p = true ∧ dat 60 (.lst ps) = true then ib (if neg = true then !ps.any (fun z => eqv z p) else ps.any fun z => eqv z p) else none
  | _, _ => none
theorem any_toD {p : P} : ∀ ps : List P, ((toDs ps).any fun z => PyData.eqv z (toD p)) = ps.any fun z => eqv z p
  | [] => rfl
  | q :: ps => by unfold toDs; rw [List.any_cons, List.any_cons, any_toD ps]; rfl
theorem v_inL {c : Ctx} : OpV c (rInD c.K) (inLP false) := by
  intro F H p1 p2 x y res Q l h1 h2 e k
  unfold inLP at e
  split at e
  · rename_i ps
    split at e
    · rename_i hd
      cases e
      have d2 := dp_of 60 (.lst ps) y hd.2 (h2.rpH l)
      have s2 := dat_shaped hd.2
      unfold toD at d2 s2
      exact ⟨_, _, dp_of 60 p1 x hd.1 (h1.rpH l), d2, dat_shaped hd.1, s2, by rw [any_toD]; exact give l k mk_bl⟩
    · cases e
  · cases e
theorem v_ninL {c : Ctx} : OpV c (rNotInD c.K) (inLP true) := by
  intro F H p1 p2 x y res Q l h1 h2 e k
  unfold inLP at e
  split at e
  · rename_i ps
    split at e
    · rename_i hd
      cases e
      have d2 := dp_of 60 (.lst ps) y hd.2 (h2.rpH l)
      have s2 := dat_shaped hd.2
      unfold toD at d2 s2
      exact ⟨_, _, dp_of 60 p1 x hd.1 (h1.rpH l), d2, dat_shaped hd.1, s2, by rw [any_toD]; exact give l k mk_bl⟩
    · cases e
  · cases e
/-! is None -/
def P.isNon : P → Bool
  | .non => true
  | _ => false
def isNP (neg : Bool) : P → P → Option Rv
  | p, .non => ib (if neg = true then !p.isNon else p.isNon)
  | _, _ => none
theorem non_iff {c : Ctx} {H : Hp} {p : P} {v : V} (r : Rp c H p v) : decide (v = .non) = p.isNon := by
  cases p with
  | non => rw [rp_non r]; rfl
  | bl b => rw [rp_bl r]; rfl
  | int i => rw [rp_int r]; rfl
  | str x => rw [rp_str r]; rfl
  | tup ps => obtain ⟨a, vs, rfl, _⟩ := rp_tup r; rfl
  | lst ps => obtain ⟨a, vs, rfl, _⟩ := rp_lst r; rfl
  | dct t ks ws => unfold Rp at r; obtain ⟨a, vs, rfl, _⟩ := r; rfl
  | obj C ps => obtain ⟨a, dx, vs, rfl, _⟩ := rp_obj r; rfl
  | fn f => rw [rp_fn r]; rfl
  | scr ns => obtain ⟨a, rfl, _⟩ := rp_scr r; rfl
  | ty n => rw [rp_ty r]; rfl
  | cls C => rw [rp_cls r]; rfl
theorem v_isN {c : Ctx} : OpV c (fun x y H Q => y = .non ∧ Q (.bl (decide (x = .non))) H) (isNP false) := by
  intro F H p1 p2 x y res Q l h1 h2 e k
  unfold isNP at e
  split at e
  · cases e
    refine ⟨h2.non, ?_⟩
    rw [non_iff (h1.rpH l)]
    exact give l k mk_bl
  · cases e
theorem v_notN {c : Ctx} : OpV c (fun x y H Q => y = .non ∧ Q (.bl (!decide (x = .non))) H) (isNP true) := by
  intro F H p1 p2 x y res Q l h1 h2 e k
  unfold isNP at e
  split at e
  · cases e
    refine ⟨h2.non, ?_⟩
    rw [non_iff (h1.rpH l)]
    exact give l k mk_bl
  · cases e
/-! ### xs[i] -/
def ixP : P → P → Option Rv
  | .lst ps, .int i => (atI ps i).map .val
  | .tup ps, .int i => (atI ps i).map .val
  | .scr ns, .int i => (atI ns i).map fun n => .val (.int n)
  | .str x, .int i => if x.length ≤ 1000000 then (atI x.cps.toList i).map fun n => .val (.str ⟨#[n]⟩) else none
  | _, _ => none
theorem rps_atI {c : Ctx} {H : Hp} {ps : List P} {vs : List V} {i : Int} {p : P} (r : Rps c H ps vs) (e : atI ps i = some p) : ∃ v, atI vs i = some v ∧ Rp c H p v := by
  have n := rps_len r
  unfold atI at e ⊢
  rw [← n]
  cases q : ixN ps.length i with
  | none => rw [q] at e; cases e
  | some j =>
    rw [q] at e
    exact rps_get r e
theorem v_ix {c : Ctx} : OpV c (rIx c.K) ixP := by
  intro F H p1 p2 x y res Q l h1 h2 e k
  have hs := sizeLine_eq
  unfold ixP at e
  split at e
  · rename_i ps i
    obtain ⟨a, vs, rfl, q, r⟩ := h1.lst l
    cases h2.int
    cases e1 : atI ps i with
    | none => rw [e1] at e; cases e
    | some p =>
      rw [e1] at e
      cases e
      obtain ⟨v, e2, rv⟩ := rps_atI r e1
      exact .inl ⟨a, vs, i, v, rfl, rfl, .of q, e2, give l k rv⟩
  · rename_i ps i
    obtain ⟨a, vs, rfl, q, r, _⟩ := h1.tup l
    cases h2.int
    cases e1 : atI ps i with
    | none => rw [e1] at e; cases e
    | some p =>
      rw [e1] at e
      cases e
      obtain ⟨v, e2, rv⟩ := rps_atI r e1
      exact .inr (.inl ⟨a, vs, i, v, rfl, rfl, q, e2, give l k rv⟩)
  · rename_i ns i
    obtain ⟨a, rfl, q⟩ := rp_scr (h1.rpH l)
    cases h2.int
    cases e1 : atI ns i with
    | none => rw [e1] at e; cases e
    | some n =>
      rw [e1] at e
      cases e
      refine .inl ⟨a, _, i, .int n, rfl, rfl, q, ?_, give l k mk_int⟩
      unfold atI at e1 ⊢
      rw [List.length_map]
      cases z : ixN ns.length i with
      | none => rw [z] at e1; cases e1
      | some j =>
        rw [z] at e1
        have e3 : ns[j]? = some n := e1
        show (ns.map V.int)[j]? = _
        rw [List.getElem?_map, e3]; rfl
  · rename_i z i
    split at e
    · rename_i hz
      cases h1.str
      cases h2.int
      cases e1 : atI z.cps.toList i with
      | none => rw [e1] at e; cases e
      | some n =>
        rw [e1] at e
        cases e
        exact .inr (.inr ⟨z, i, n, rfl, rfl, by omega, e1, give l k mk_str⟩)
    · cases e
  · cases e
/-! ### calls -/
def lenP : List P → Option Rv
  | [.lst ps] => ii ps.length
  | [.tup ps] => ii ps.length
  | [.scr ns] => ii ns.length
  | [.str x] => if x.length ≤ 1000000 then ii x.length else none
  | _ => none
def rLen2 (K : PySem.W.Frag) : List V → Hp → VK → Prop := fun xs H Q => (∃ p ys, xs = [.ref p] ∧ (SqL K H p ys ∨ SqT K H p ys) ∧ Q (.int ys.length) H) ∨ (∃ z, xs = [.str z] ∧ z.length ≤ sizeLine ∧ Q (.int z.length) H)
theorem cl_len {X : Cx} : CallR X (.builtin "len") (rLen2 X.K) := CallR.or call_len_seq call_len_str
theorem rbs1 {c : Ctx} {F H : Hp} {p : P} {xs : List V} (h : Rbs c F H [p] xs) : ∃ v, xs = [v] ∧ Rb c F H p v := by
  obtain ⟨v, l, rfl, h1, h2⟩ := h
  have : l = [] := h2
  subst this
  exact ⟨v, rfl, h1⟩
theorem rbs2 {c : Ctx} {F H : Hp} {p q : P} {xs : List V} (h : Rbs c F H [p, q] xs) : ∃ v w, xs = [v, w] ∧ Rb c F H p v ∧ Rb c F H q w := by
  obtain ⟨v, l, rfl, h1, h2⟩ := h
  obtain ⟨w, rfl, h3⟩ := rbs1 h2
  exact ⟨v, w, rfl, h1, h3⟩
theorem v_len {c : Ctx} : CalV c (rLen2 c.K) lenP := by
  intro F H ps xs res Q l h e k
  have hs := sizeLine_eq
  unfold lenP at e
  split at e
  · cases e
    obtain ⟨v, rfl, h1⟩ := rbs1 h
    obtain ⟨a, vs, rfl, q, r⟩ := h1.lst l
    refine .inl ⟨a, vs, rfl, .inl (.of q), ?_⟩
    rw [← rps_len r]
    exact give l k mk_int
  · cases e
    obtain ⟨v, rfl, h1⟩ := rbs1 h
    obtain ⟨a, vs, rfl, q, r, _⟩ := h1.tup l
    refine .inl ⟨a, vs, rfl, .inr q, ?_⟩
    rw [← rps_len r]
    exact give l k mk_int
  · cases e
    obtain ⟨v, rfl, h1⟩ := rbs1 h
    obtain ⟨a, rfl, q⟩ := rp_scr (h1.rpH l)
    refine .inl ⟨a, _, rfl, .inl q, ?_⟩
    rw [List.length_map]
    exact give l k mk_int
  · split at e
    · rename_i z hz
      cases e
      obtain ⟨v, rfl, h1⟩ := rbs1 h
      cases h1.str
      exact .inr ⟨z, rfl, by omega, give l k mk_int⟩
    · cases e
  · cases e
def absP : List P → Option Rv
  | [.int i] => ii (if i < 0 then -i else i)
  | _ => none
theorem v_abs {c : Ctx} : CalV c (fun xs H Q => ∃ i, xs = [.int i] ∧ Q (.int (if i < 0 then -i else i)) H) absP := by
  intro F H ps xs res Q l h e k
  unfold absP at e
  split at e
  · cases e
    obtain ⟨v, rfl, h1⟩ := rbs1 h
    cases h1.int
    exact ⟨_, rfl, give l k mk_int⟩
  · cases e
def intP : List P → Option Rv
  | [.int i] => ii i
  | [.bl b] => ii (if b = true then 1 else 0)
  | _ => none
theorem v_int {c : Ctx} : CalV c (fun xs H Q => (∃ i, xs = [.int i] ∧ Q (.int i) H) ∨ ∃ k, xs = [.bl k] ∧ Q (.int (if k then 1 else 0)) H) intP := by
  intro F H ps xs res Q l h e k
  unfold intP at e
  split at e
  · cases e
    obtain ⟨v, rfl, h1⟩ := rbs1 h
    cases h1.int
    exact .inl ⟨_, rfl, give l k mk_int⟩
  · cases e
    obtain ⟨v, rfl, h1⟩ := rbs1 h
    cases h1.bl
    exact .inr ⟨_, rfl, give l k mk_int⟩
  · cases e
def tupleP : List P → Option Rv
  | [.lst ps] => some (.val (.tup ps))
  | [.tup ps] => some (.val (.tup ps))
  | _ => none
theorem v_tuple {c : Ctx} : CalV c (fun xs H Q => ∃ p ys, xs = [.ref p] ∧ ((SqL c.K H p ys ∧ ∀ l, H l = none → Q (.ref l) (L2.upd H l (.tup ys))) ∨ (SqT c.K H p ys ∧ Q (.ref p) H))) tupleP := by
  intro F H ps xs res Q l h e k
  unfold tupleP at e
  split at e
  · cases e
    obtain ⟨v, rfl, h1⟩ := rbs1 h
    obtain ⟨a, vs, rfl, q, r⟩ := h1.lst l
    exact ⟨a, vs, rfl, .inl ⟨.of q, fun p hp => k _ _ _ (gr_tup l hp) (rn_tup l hp r)⟩⟩
  · cases e
    obtain ⟨v, rfl, h1⟩ := rbs1 h
    obtain ⟨a, vs, rfl, q, r, z⟩ := h1.tup l
    exact ⟨a, vs, rfl, .inr ⟨q, give l k z⟩⟩
  · cases e
def listP : List P → Option Rv
  | [.lst ps] => some (.own (.lst ps))
  | [.tup ps] => some (.own (.lst ps))
  | _ => none
theorem v_list {c : Ctx} : CalV c (fun xs H Q => ∃ p ys, xs = [.ref p] ∧ (SqL c.K H p ys ∨ SqT c.K H p ys) ∧ ∀ l, H l = none → Q (.ref l) (L2.upd H l (.lst ys))) listP := by
  intro F H ps xs res Q l h e k
  unfold listP at e
  split at e
  · cases e
    obtain ⟨v, rfl, h1⟩ := rbs1 h
    obtain ⟨a, vs, rfl, q, r⟩ := h1.lst l
    exact ⟨a, vs, rfl, .inl (.of q), fun p hp => k _ _ _ (gr_lst l hp) (rn_lst l hp r)⟩
  · cases e
    obtain ⟨v, rfl, h1⟩ := rbs1 h
    obtain ⟨a, vs, rfl, q, r, z⟩ := h1.tup l
    exact ⟨a, vs, rfl, .inr q, fun p hp => k _ _ _ (gr_lst l hp) (rn_lst l hp r)⟩
  · cases e
/-- ints of a row -/
def intsOf : List P → Option (List Int)
  | [] => some []
  | .int i :: ps => (intsOf ps).map (i :: ·)
  | _ => none
theorem ints_rps {c : Ctx} {H : Hp} : ∀ {ps : List P} {ns : List Int} {vs : List V}, intsOf ps = some ns → Rps c H ps vs → vs = ns.map V.int
  | [], _, _, e, r => by cases e; exact rps_nil_inv r
  | p :: ps, _, _, e, r => by
    cases p with
    | int i =>
      unfold intsOf at e
      cases e1 : intsOf ps with
      | none => rw [e1] at e; cases e
      | some ns =>
        rw [e1] at e
        cases e
        obtain ⟨v, l, rfl, r1, r2⟩ := rps_inv r
        rw [rp_int r1, ints_rps e1 r2]; rfl
    | _ => cases e
theorem intsOf_map (ns : List Int) : intsOf (ns.map .int) = some ns := by
  induction ns with
  | nil => rfl
  | cons n ns ih => show (intsOf (ns.map .int)).map (n :: ·) = _; rw [ih]; rfl
def maxI : List Int → Int
  | [] => 0
  | n :: ns => ns.foldl max n
def minI : List Int → Int
  | [] => 0
  | n :: ns => ns.foldl min n
theorem foldl_max : ∀ (ns : List Int) (n : Int), (n ≤ ns.foldl max n ∧ ∀ y ∈ ns, y ≤ ns.foldl max n) ∧ (ns.foldl max n = n ∨ ns.foldl max n ∈ ns)
  | [], n => ⟨⟨Int.le_refl n, fun y h => by cases h⟩, .inl rfl⟩
  | m :: ns, n => by
    obtain ⟨⟨h1, h2⟩, h3⟩ := foldl_max ns (max n m)
    refine ⟨⟨by show n ≤ ns.foldl max (max n m); omega, fun y hy => ?_⟩, ?_⟩
    · show y ≤ ns.foldl max (max n m)
      rcases List.mem_cons.mp hy with e | e
      · subst e; omega
      · exact h2 y e
    · show ns.foldl max (max n m) = n ∨ _
      rcases h3 with e | e
      · rw [List.foldl_cons, e]
        by_cases z : n ≤ m
        · exact .inr (by rw [Int.max_eq_right z]; exact List.mem_cons_self)
        · exact .inl (Int.max_eq_left (by omega))
      · exact .inr (List.mem_cons_of_mem _ e)
theorem foldl_min : ∀ (ns : List Int) (n : Int), (ns.foldl min n ≤ n ∧ ∀ y ∈ ns, ns.foldl min n ≤ y) ∧ (ns.foldl min n = n ∨ ns.foldl min n ∈ ns)
  | [], n => ⟨⟨Int.le_refl n, fun y h => by cases h⟩, .inl rfl⟩
  | m :: ns, n => by
    obtain ⟨⟨h1, h2⟩, h3⟩ := foldl_min ns (min n m)
    refine ⟨⟨by show ns.foldl min (min n m) ≤ n; omega, fun y hy => ?_⟩, ?_⟩
    · show ns.foldl min (min n m) ≤ y
      rcases List.mem_cons.mp hy with e | e
      · subst e; omega
      · exact h2 y e
    · show ns.foldl min (min n m) = n ∨ _
      rcases h3 with e | e
      · rw [List.foldl_cons, e]
        by_cases z : n ≤ m
        · exact .inl (Int.min_eq_left z)
        · exact .inr (by rw [Int.min_eq_right (by omega)]; exact List.mem_cons_self)
      · exact .inr (List.mem_cons_of_mem _ e)
theorem maxI_spec {ns : List Int} (h : 0 < ns.length) : maxI ns ∈ ns ∧ ∀ y ∈ ns, y ≤ maxI ns := by
  cases ns with
  | nil => simp at h
  | cons n ns =>
    obtain ⟨⟨h1, h2⟩, h3⟩ := foldl_max ns n
    refine ⟨?_, fun y hy => ?_⟩
    · rcases h3 with e | e
      · show ns.foldl max n ∈ _; rw [e]; exact List.mem_cons_self
      · exact List.mem_cons_of_mem _ e
    · rcases List.mem_cons.mp hy with e | e
      · subst e; exact h1
      · exact h2 y e
theorem minI_spec {ns : List Int} (h : 0 < ns.length) : minI ns ∈ ns ∧ ∀ y ∈ ns, minI ns ≤ y := by
  cases ns with
  | nil => simp at h
  | cons n ns =>
    obtain ⟨⟨h1, h2⟩, h3⟩ := foldl_min ns n
    refine ⟨?_, fun y hy => ?_⟩
    · rcases h3 with e | e
      · show ns.foldl min n ∈ _; rw [e]; exact List.mem_cons_self
      · exact List.mem_cons_of_mem _ e
    · rcases List.mem_cons.mp hy with e | e
      · subst e; exact h1
      · exact h2 y e
def onInts (g : List Int → Option Rv) : List P → Option Rv
  | [.lst ps] => (intsOf ps).bind g
  | _ => none
def sumP := onInts fun ns => ii ns.sum
def maxLP := onInts fun ns => if 0 < ns.length then ii (maxI ns) else none
def minLP := onInts fun ns => if 0 < ns.length then ii (minI ns) else none
theorem onInts_post {c : Ctx} {F H : Hp} {ps : List P} {xs : List V} {g : List Int → Option Rv} {res : Rv} (l : Le F H) (h : Rbs c F H ps xs) (e : onInts g ps = some res) : ∃ a ns, xs = [.ref a] ∧ SqL c.K H a (ns.map V.int) ∧ g ns = some res := by
  unfold onInts at e
  split at e
  · rename_i qs
    obtain ⟨v, rfl, h1⟩ := rbs1 h
    obtain ⟨a, vs, rfl, q, r⟩ := h1.lst l
    cases e1 : intsOf qs with
    | none => rw [e1] at e; cases e
    | some ns =>
      rw [e1] at e
      have := ints_rps e1 r
      subst this
      exact ⟨a, ns, rfl, .of q, e⟩
  · cases e
theorem v_sum {c : Ctx} : CalV c (rSum c.K) sumP := by
  intro F H ps xs res Q l h e k
  obtain ⟨a, ns, rfl, q, e⟩ := onInts_post l h e
  cases e
  exact ⟨a, ns, rfl, q, give l k mk_int⟩
theorem v_maxL {c : Ctx} : CalV c (rMax c.K) maxLP := by
  intro F H ps xs res Q l h e k
  obtain ⟨a, ns, rfl, q, e⟩ := onInts_post l h e
  split at e
  · rename_i hn
    cases e
    refine ⟨a, ns, rfl, q, hn, fun m h1 h2 => ?_⟩
    obtain ⟨h3, h4⟩ := maxI_spec hn
    have := h2 _ h3
    have := h4 _ h1
    rw [show m = maxI ns by omega]
    exact give l k mk_int
  · cases e
theorem v_minL {c : Ctx} : CalV c (rMin c.K) minLP := by
  intro F H ps xs res Q l h e k
  obtain ⟨a, ns, rfl, q, e⟩ := onInts_post l h e
  split at e
  · rename_i hn
    cases e
    refine ⟨a, ns, rfl, q, hn, fun m h1 h2 => ?_⟩
    obtain ⟨h3, h4⟩ := minI_spec hn
    have := h2 _ h3
    have := h4 _ h1
    rw [show m = minI ns by omega]
    exact give l k mk_int
  · cases e
def max2P : List P → Option Rv
  | [.int i, .int j] => ii (if j > i then j else i)
  | _ => none
def min2P : List P → Option Rv
  | [.int i, .int j] => ii (if j < i then j else i)
  | _ => none
theorem v_max2 {c : Ctx} : CalV c (fun xs H Q => ∃ i j, xs = [.int i, .int j] ∧ Q (.int (if j > i then j else i)) H) max2P := by
  intro F H ps xs res Q l h e k
  unfold max2P at e
  split at e
  · cases e
    obtain ⟨v, w, rfl, h1, h2⟩ := rbs2 h
    cases h1.int; cases h2.int
    exact ⟨_, _, rfl, give l k mk_int⟩
  · cases e
theorem v_min2 {c : Ctx} : CalV c (fun xs H Q => ∃ i j, xs = [.int i, .int j] ∧ Q (.int (if j < i then j else i)) H) min2P := by
  intro F H ps xs res Q l h e k
  unfold min2P at e
  split at e
  · cases e
    obtain ⟨v, w, rfl, h1, h2⟩ := rbs2 h
    cases h1.int; cases h2.int
    exact ⟨_, _, rfl, give l k mk_int⟩
  · cases e
/-! all, any of a list of truths -/
def blsOf : List P → Option (List Bool)
  | [] => some []
  | .bl i :: ps => (blsOf ps).map (i :: ·)
  | _ => none
theorem bls_rps {c : Ctx} {H : Hp} : ∀ {ps : List P} {ns : List Bool} {vs : List V}, blsOf ps = some ns → Rps c H ps vs → vs = ns.map V.bl
  | [], _, _, e, r => by cases e; exact rps_nil_inv r
  | p :: ps, _, _, e, r => by
    cases p with
    | bl i =>
      unfold blsOf at e
      cases e1 : blsOf ps with
      | none => rw [e1] at e; cases e
      | some ns =>
        rw [e1] at e
        cases e
        obtain ⟨v, l, rfl, r1, r2⟩ := rps_inv r
        rw [rp_bl r1, bls_rps e1 r2]; rfl
    | _ => cases e
theorem blsOf_map (ns : List Bool) : blsOf (ns.map .bl) = some ns := by
  induction ns with
  | nil => rfl
  | cons n ns ih => show (blsOf (ns.map .bl)).map (n :: ·) = _; rw [ih]; rfl
def onBls (g : List Bool → Bool) : List P → Option Rv
  | [.lst ps] => (blsOf ps).bind fun bs => ib (g bs)
  | _ => none
def allP := onBls fun bs => bs.all id
def anyP := onBls fun bs => bs.any id
theorem onBls_post {c : Ctx} {F H : Hp} {ps : List P} {xs : List V} {g : List Bool → Bool} {res : Rv} (l : Le F H) (h : Rbs c F H ps xs) (e : onBls g ps = some res) : ∃ a ns, xs = [.ref a] ∧ SqL c.K H a (ns.map V.bl) ∧ ib (g ns) = some res := by
  unfold onBls at e
  split at e
  · rename_i qs
    obtain ⟨v, rfl, h1⟩ := rbs1 h
    obtain ⟨a, vs, rfl, q, r⟩ := h1.lst l
    cases e1 : blsOf qs with
    | none => rw [e1] at e; cases e
    | some ns =>
      rw [e1] at e
      have := bls_rps e1 r
      subst this
      exact ⟨a, ns, rfl, .of q, e⟩
  · cases e
theorem v_all {c : Ctx} : CalV c (rAll c.K) allP := by
  intro F H ps xs res Q l h e k
  obtain ⟨a, ns, rfl, q, e⟩ := onBls_post l h e
  cases e
  exact ⟨a, ns, rfl, q, give l k mk_bl⟩
theorem v_any {c : Ctx} : CalV c (rAny c.K) anyP := by
  intro F H ps xs res Q l h e k
  obtain ⟨a, ns, rfl, q, e⟩ := onBls_post l h e
  cases e
  exact ⟨a, ns, rfl, q, give l k mk_bl⟩
end PV

namespace PV
open PySem L2 PyProof.Rows

/-! ### isinstance -/
def tyName : P → Option String
  | .non => some "NoneType"
  | .bl _ => some "bool"
  | .int _ => some "int"
  | .str _ => some "str"
  | .tup _ => some "tuple"
  | .lst _ => some "list"
  | _ => none
def isi1 (p : P) (n : String) : Option Bool := (tyName p).bind fun t => if n ∈ ["int", "bool", "str", "list", "tuple"] then some (t == n || (t == "bool" && n == "int")) else none
theorem kit_all : ∀ t ∈ ["NoneType", "bool", "int", "str", "tuple", "list"], ∀ n ∈ ["int", "bool", "str", "list", "tuple"], kitB t n = some (t == n || (t == "bool" && n == "int")) := by decide +kernel
theorem tyName_mem {p : P} {t : String} (h : tyName p = some t) : t ∈ ["NoneType", "bool", "int", "str", "tuple", "list"] := by
  cases p <;> simp only [tyName] at h <;> first | (cases h; decide) | cases h
theorem tyx_of {c : Ctx} {H : Hp} {p : P} {v : V} {t : String} (r : Rp c H p v) (h : tyName p = some t) : TyX c.K H v (.type t) := by
  cases p with
  | non => cases h; rw [rp_non r]; exact .base .non
  | bl b => cases h; rw [rp_bl r]; exact .base (.bl b)
  | int i => cases h; rw [rp_int r]; exact .base (.int i)
  | str x => cases h; rw [rp_str r]; exact .base (.str x)
  | tup ps =>
    cases h
    obtain ⟨a, vs, rfl, q, _⟩ := rp_tup r
    rcases q with (q | ⟨o, q⟩) | ⟨o, its, n, q1, q2, _⟩
    · exact .base (.tup q)
    · exact .fTuple q
    · exact .kTuple q1 q2
  | lst ps =>
    cases h
    obtain ⟨a, vs, rfl, q, _⟩ := rp_lst r
    exact .base (.lst q)
  | dct t ks ws => cases h
  | obj C ps => cases h
  | fn f => cases h
  | scr ns => cases h
  | ty n => cases h
  | cls C => cases h
theorem kit_isi {K : PySem.W.Frag} {p : P} {t n : String} {b : Bool} (h : tyName p = some t) (e : isi1 p n = some b) : PySem.W.kitOne K (.type t) (.type n) = some b := by
  unfold isi1 at e
  rw [h] at e
  have e' : (if n ∈ ["int", "bool", "str", "list", "tuple"] then some (t == n || (t == "bool" && n == "int")) else none) = some b := e
  split at e'
  · rename_i hn
    rw [← e']
    exact kit_ty (kit_all t (tyName_mem h) n hn)
  · cases e'
def isiAny (p : P) : List P → Option Bool
  | [] => some false
  | .ty n :: ps => (isi1 p n).bind fun b => if b = true then some true else isiAny p ps
  | _ => none
def isiP : List P → Option Rv
  | [p, .ty n] => (isi1 p n).bind ib
  | [p, .tup ts] => (isiAny p ts).bind ib
  | _ => none
/-- isinstance(x, (c1, c2, ..)), the tuple readable -/
def rIsiS (K : PySem.W.Frag) : List V → Hp → VK → Prop := fun xs H Q => ∃ (x : V) (tp : Addr) (cs : List V) (t : Value) (us : List Value) (b : Bool), xs = [x, .ref tp] ∧ SqT K H tp cs ∧ Paired ClsV cs us ∧ TyX K H x t ∧ PySem.W.kitAny K t us = some b ∧ Q (.bl b) H
theorem call_isiS {X : Cx} : CallR X (.builtin "isinstance") (rIsiS X.K) := by
  intro pins s σ H xs us Q I r h
  obtain ⟨x, tp, cs, t, ws, b, rfl, hT, k, ty, e, q⟩ := h
  obtain ⟨u1, u2, rfl, r1, r2⟩ := vals2 r
  cases (show u2 = Value.ref tp from r2)
  obtain ⟨P, Z, p, hx⟩ := kit_of I r1 ty
  obtain ⟨its, rv, ⟨o, h1, h2, n, h3⟩, _⟩ := I.tuple hT
  have e3 := ClsV.all k rv
  subst e3
  obtain ⟨oc, od, dt, sl⟩ := o
  simp only at h2 h3
  subst h2 h3
  exact PySem.W.kia_tup Z I.kIn p h1 e hx fun tk => ⟨.bl b, H, I.tok tk, rfl, q⟩
theorem cl_isi {X : Cx} : CallR X (.builtin "isinstance") (fun x H Q => rIsi X.K x H Q ∨ rIsiS X.K x H Q) := CallR.or call_isi call_isiS
/-- the types written in the tuple -/
def allTy : List P → Bool
  | [] => true
  | .ty _ :: ps => allTy ps
  | _ => false
theorem tys_paired {c : Ctx} {H : Hp} : ∀ {ts : List P} {vs : List V}, allTy ts = true → Rps c H ts vs → ∃ us, Paired ClsV vs us ∧ us = ts.map (fun t => match t with | .ty n => Value.type n | _ => Value.none)
  | [], _, _, r => by rw [rps_nil_inv r]; exact ⟨[], .nil, rfl⟩
  | t :: ts, _, h, r => by
    obtain ⟨v, l, rfl, r1, r2⟩ := rps_inv r
    cases t with
    | ty n =>
      obtain ⟨us, k, e⟩ := tys_paired (show allTy ts = true from h) r2
      rw [rp_ty r1]
      exact ⟨.type n :: us, .cons (.ty n) k, by rw [e]; rfl⟩
    | _ => cases h
theorem kitAny_of {K : PySem.W.Frag} {p : P} {t : String} (ht : tyName p = some t) : ∀ {ts : List P} {b : Bool}, allTy ts = true → isiAny p ts = some b → PySem.W.kitAny K (.type t) (ts.map (fun t => match t with | .ty n => Value.type n | _ => Value.none)) = some b
  | [], _, _, e => by cases e; exact kitAny_nil
  | q :: ts, b, h, e => by
    cases q with
    | ty n =>
      unfold isiAny at e
      cases e1 : isi1 p n with
      | none => rw [e1] at e; cases e
      | some b1 =>
        rw [e1] at e
        refine kitAny_cons (kit_isi ht e1) (fun z => ?_) (fun z => ?_)
        · subst z
          exact kitAny_of ht (show allTy ts = true from h) e
        · subst z
          cases e
          rfl
    | _ => cases h
def isiP' : List P → Option Rv
  | [p, .tup ts] => if allTy ts = true ∧ (tyName p).isSome = true then isiP [p, .tup ts] else none
  | ps => isiP ps
theorem v_isi {c : Ctx} : CalV c (fun x H Q => rIsi c.K x H Q ∨ rIsiS c.K x H Q) isiP' := by
  intro F H ps xs res Q l h e k
  have one : ∀ (p : P) (n : String), Rbs c F H [p, .ty n] xs → (isi1 p n).bind ib = some res → rIsi c.K xs H Q := fun p n h e => by
    obtain ⟨v, w, rfl, h1, h2⟩ := rbs2 h
    cases e1 : isi1 p n with
    | none => rw [e1] at e; cases e
    | some b =>
      rw [e1] at e
      cases e
      cases ht : tyName p with
      | none => unfold isi1 at e1; rw [ht] at e1; cases e1
      | some t =>
        have hw := rp_ty (h2.rpH l)
        exact ⟨v, w, .type t, .type n, b, rfl, by rw [hw]; exact .ty n, tyx_of (h1.rpH l) ht, kit_isi ht e1, give l k mk_bl⟩
  unfold isiP' at e
  split at e
  · rename_i p ts
    split at e
    · rename_i ha
      have e' : (isiAny p ts).bind ib = some res := e
      obtain ⟨v, w, rfl, h1, h2⟩ := rbs2 h
      obtain ⟨a, vs, rfl, q, r, _⟩ := h2.tup l
      cases e1 : isiAny p ts with
      | none => rw [e1] at e'; cases e'
      | some b =>
        rw [e1] at e'
        cases e'
        obtain ⟨us, k1, k2⟩ := tys_paired ha.1 r
        cases ht : tyName p with
        | none => rw [ht] at ha; cases ha.2
        | some t => exact .inr ⟨v, a, vs, .type t, us, b, rfl, q, k1, tyx_of (h1.rpH l) ht, by rw [k2]; exact kitAny_of ht ha.1 e1, give l k mk_bl⟩
    · cases e
  · unfold isiP at e
    split at e
    · exact .inl (one _ _ h e)
    · rename_i p ts hne
      exact absurd rfl (hne p ts)
    · cases e
end PV

namespace PV
open PySem L2 PyProof.Rows

/-! ### slices -/
def cutP (xs : List P) (lo hi : Option Int) : List P := (xs.drop (HT.sIx xs.length 0 lo)).take (HT.sIx xs.length xs.length hi - HT.sIx xs.length 0 lo)
theorem rps_cut {c : Ctx} {F : Hp} {ps : List P} {vs : List V} (r : Rps c F ps vs) (lo hi : Option Int) : Rps c F (cutP ps lo hi) (cutV vs lo hi) := by
  unfold cutP cutV
  rw [rps_len r]
  exact rps_take _ (rps_drop _ r)
def slP : P → Option Int → Option Int → Option Rv
  | .lst xs, lo, hi => some (.own (.lst (cutP xs lo hi)))
  | .tup xs, lo, hi => some (.val (.tup (cutP xs lo hi)))
  | _, _, _ => none
def rSlB (K : PySem.W.Frag) : V → Option Int → Option Int → Hp → VK → Prop := fun x lo hi H Q => rSlL K x lo hi H Q ∨ rSlA K x lo hi H Q
theorem v_sl {c : Ctx} {F H : Hp} {p : P} {x : V} {res : Rv} {Q : VK} {lo hi : Option Int} (l : Le F H) (h : Rb c F H p x) (e : slP p lo hi = some res) (k : ∀ v F' H', Gr F H F' H' → RN c H F' H' res v → Q v H') : rSlB c.K x lo hi H Q := by
  cases p with
  | lst xs =>
    cases e
    obtain ⟨a, vs, rfl, q, r⟩ := h.lst l
    exact .inl ⟨a, vs, rfl, .of q, fun p hp => k _ _ _ (gr_lst l hp) (rn_lst l hp (rps_cut r _ _))⟩
  | tup xs =>
    cases e
    obtain ⟨a, vs, rfl, q, r, r0⟩ := h.tup l
    refine .inr ⟨a, vs, rfl, q, fun z => k _ F H (Gr.refl l) ?_, fun _ p hp => k _ _ _ (gr_tup l hp) (rn_tup l hp (rps_cut r _ _))⟩
    have : cutP xs lo hi = xs := by
      unfold cutP
      rw [rps_len r, z.1, z.2]
      rw [List.drop_zero, Nat.sub_zero, ← rps_len r, List.take_length]
    rw [this]
    exact r0
  | _ => cases e
def tO (c : Ctx) (w : Wi) (f : M (Option Int)) : TO := fun σ H Q => ∃ F π, w.g σ F ∧ SR c F π σ H ∧ Po c w.W F π σ H (f π) (fun b π' F' H' => Q b H')
def noP : M (Option Int) := fun π => .ok none π
def inP (f : M Rs) : M (Option Int) := fun π => (f π).bind fun r π1 => match r with
  | .val (.int i) => .ok (some i) π1
  | _ => .bad
def slR (r : Rs) (lo hi : Option Int) : M Rs := fun π => match rdP π r with
  | some p => outR (slP p lo hi) π
  | none => .bad
def slF (f : M Rs) (g h : M (Option Int)) : M Rs := fun π => (f π).bind fun r π1 => (g π1).bind fun lo π2 => (h π2).bind fun hi => slR r lo hi
theorem po_weak {X : Cx} {e : Option Expr} {t t' : TO} (h : PO X e t) (k : ∀ σ H Q, t' σ H Q → t σ H Q) : PO X e t' := ⟨fun pins s σ H Q I q => h.run pins s σ H Q I (k _ _ _ q)⟩
section
variable {X : Cx} {c : Ctx} {w : Wi} {e : Expr} {lo hi : Option Expr} {pos p2 : Pos} {f : M Rs} {g h : M (Option Int)}
theorem o_no : PO X none (tO c w noP) := po_weak po_none fun σ H Q ⟨F, π, gg, s, po⟩ => po F H .refl s
theorem o_in (he : PE X e (tE c w f)) : PO X (some e) (tO c w (inP f)) := po_weak (po_some he) fun σ H Q ⟨F, π, gg, s, po⟩ => by
  refine ⟨F, π, gg, s, (Po.split po).mono fun r π1 F1 H1 t1 s1 p1 x hx => ?_⟩
  cases r with
  | val p =>
    cases p with
    | int i => exact ⟨i, rp_int (show Rp c F1 (.int i) x from hx), p1 F1 H1 .refl s1⟩
    | _ => exact p1.elim
  | own o => exact p1.elim
  | bor i => exact p1.elim
theorem p_sl (hK : X.K = c.K) (he : PE X e (tE c w f)) (hl : PO X lo (tO c w g)) (hu : PO X hi (tO c w h)) : PE X (.Subscript e (.Slice lo hi none p2) pos) (tE c w (slF f g h)) :=
  pe_weak (pe_slice (r := rSlB X.K) (SlR.or sl_list sl_tupA) he hl hu) fun σ H Q ⟨F, π, gg, s, po⟩ => by
    refine ⟨F, π, gg, s, (Po.split po).mono fun r π1 F1 H1 t1 s1 p1 x hx => ⟨F1, π1, w.mono _ _ t1.le gg, s1, (Po.split p1).mono fun lo π2 F2 H2 t2 s2 p2 => ⟨F2, π2, w.mono _ _ (t1.trans t2).le gg, s2, (Po.split p2).mono fun hi π3 F3 H3 t3 s3 p3 => ?_⟩⟩⟩
    rw [hK]
    unfold slR at p3
    cases e1 : rdP π3 r with
    | none => rw [e1] at p3; exact p3.elim
    | some q1 =>
      rw [e1] at p3
      obtain ⟨rv, e3, k⟩ := outR_post s3 p3
      refine v_sl s3.le ((hx.step (t2.trans t3)).rb s3 e1) e3 fun v F4 H4 gr rn => ?_
      obtain ⟨k1, k2⟩ := k v F4 H4 gr rn
      exact k1 v (k2.base (t1.trans (t2.trans t3)))
end

/-! ### list(range(..)) -/
def lrgR (ps : List P) : M Rs := fun π => .ok (.own (.lst ps)) π
def lrgF (fi : M (List P)) : M Rs := fun π => (fi π).bind lrgR
section
variable {X : Cx} {c : Ctx} {w : Wi} {e e2 : Expr} {pos pos2 p p2 : Pos} {fa : M (List Rs)} {f g : M Rs}
theorem rps_rg {F : Hp} {i j : Int} : Rps c F (rngP i j) (rgV i j) := by
  unfold rngP rgV
  generalize List.range (j - i).toNat = l
  induction l with
  | nil => exact rps_nil
  | cons a l ih => exact rps_cons mk_int ih
theorem p_listRg1 (hc : X.calm = true) (hg : Gl X "range") (hm : X.mg "range" = none) (hg2 : Gl X "list") (hm2 : X.mg "list" = none) (ha : PE X e (tE c w f)) (na : starEach [e] X.env = (false, eval e X.env) :: starEach [] X.env := by rfl)
    (na2 : starEach [.Call (.Name "range" p) [e] [] pos] X.env = (false, eval (.Call (.Name "range" p) [e] [] pos) X.env) :: starEach [] X.env := by rfl) :
    PE X (.Call (.Name "list" p2) [.Call (.Name "range" p) [e] [] pos] [] pos2) (tE c w (lrgF (rng1F (consF f nilF)))) :=
  pe_weak (pe_listRg hc hg2 hm2 (prg_1 hg hm ha na) na2) fun σ H Q ⟨F, π, gg, s, po⟩ => by
    unfold lrgF rng1F consF nilF at po
    refine ⟨F, π, gg, s, ?_⟩
    cases e0 : f π with
    | bad => simp only [e0, Out.bind] at po; exact po
    | exc C qs π1 => simp only [e0, Out.bind] at po; exact po
    | ok r π1 =>
      simp only [e0, Out.bind] at po
      intro F1 H1 t1 s1 v hr
      have po := Po.from po t1
      cases r with
      | own o => exact po.elim
      | bor i => exact po.elim
      | val q =>
        cases q with
        | int j =>
          have hv : v = .int j := rp_int (show Rp c F1 (.int j) v from hr)
          subst hv
          refine ⟨j, rfl, ?_⟩
          simp only [rng1R] at po
          by_cases hb : -8000000 ≤ j ∧ j ≤ 8000000
          · simp only [if_pos hb] at po
            refine ⟨⟨by omega, by omega, by omega, by omega, by omega⟩, fun q hq => ?_⟩
            have gr : Gr F1 H1 F1 (L2.upd H1 q (.lst (rgV 0 j))) := gr_lst s1.le hq
            exact po _ _ gr.tr (gr.sr s1) _ ((RN.rr (rv := .own (.lst _)) s1 gr (rn_lst s1.le hq rps_rg)).base t1)
          · simp only [if_neg hb] at po; exact po.elim
        | _ => exact po.elim
theorem rng2R_exc {rs : List Rs} {π π' : En} {C : Nat} {ps : List P} (e : rng2R rs π = .exc C ps π') : False := by
  unfold rng2R at e
  split at e
  · split at e <;> cases e
  · cases e
theorem rng2R_ok {rs : List Rs} {π π' : En} {ps : List P} (e : rng2R rs π = .ok ps π') : ∃ i j : Int, ((-8000000 ≤ i ∧ i ≤ 8000000) ∧ -8000000 ≤ j ∧ j ≤ 8000000) ∧ rs = [.val (.int i), .val (.int j)] ∧ ps = rngP i j ∧ π' = π := by
  unfold rng2R at e
  split at e
  · split at e
    · rename_i hb
      cases e
      exact ⟨_, _, hb, rfl, rfl, rfl⟩
    · cases e
  · cases e
theorem p_listRg2 (hc : X.calm = true) (hg : Gl X "range") (hm : X.mg "range" = none) (hg2 : Gl X "list") (hm2 : X.mg "list" = none) (ha : PE X e (tE c w f)) (hb : PE X e2 (tE c w g)) (na : starEach [e, e2] X.env = (false, eval e X.env) :: starEach [e2] X.env := by rfl)
    (nb : starEach [e2] X.env = (false, eval e2 X.env) :: starEach [] X.env := by rfl) (hp : (backTo pos (starEach [e2] X.env)).any (·.1) = false := by rfl)
    (na2 : starEach [.Call (.Name "range" p) [e, e2] [] pos] X.env = (false, eval (.Call (.Name "range" p) [e, e2] [] pos) X.env) :: starEach [] X.env := by rfl) :
    PE X (.Call (.Name "list" p2) [.Call (.Name "range" p) [e, e2] [] pos] [] pos2) (tE c w (lrgF (rng2F (consF f (consF g nilF))))) :=
  pe_weak (pe_listRg hc hg2 hm2 (prg_2 hg hm ha hb na nb hp) na2) fun σ H Q ⟨F, π, gg, s, po⟩ => by
    unfold lrgF rng2F consF nilF at po
    refine ⟨F, π, gg, s, ?_⟩
    cases e0 : f π with
    | bad => simp only [e0, Out.bind] at po; exact po
    | exc C qs π1 => simp only [e0, Out.bind] at po; exact po
    | ok r π1 =>
      simp only [e0, Out.bind] at po
      intro F1 H1 t1 s1 v hr
      refine ⟨F1, π1, w.mono _ _ t1.le gg, s1, ?_⟩
      have po := Po.from po t1
      cases e1 : g π1 with
      | bad => simp only [e1] at po; exact po
      | exc C qs π1 => simp only [e1] at po; exact po
      | ok r2 π2 =>
        simp only [e1] at po
        intro F2 H2 t2 s2 v2 hr2
        have po := Po.from po t2
        cases e3 : rng2R [r, r2] π2 with
        | bad => rw [e3] at po; exact po.elim
        | exc C qs π3 => exact (rng2R_exc e3).elim
        | ok ps π3 =>
          rw [e3] at po
          obtain ⟨i, j, hb, er, eps, eπ⟩ := rng2R_ok e3
          cases er
          subst eps eπ
          have hv : v = .int i := rp_int (show Rp c F1 (.int i) v from hr)
          have hv2 : v2 = .int j := rp_int (show Rp c F2 (.int j) v2 from hr2)
          subst hv hv2
          refine ⟨i, j, rfl, rfl, ⟨by omega, by omega, by omega, by omega, by omega⟩, fun q hq => ?_⟩
          have gr : Gr F2 H2 F2 (L2.upd H2 q (.lst (rgV i j))) := gr_lst s2.le hq
          exact po _ _ gr.tr (gr.sr s2) _ ((RN.rr (rv := .own (.lst _)) s2 gr (rn_lst s2.le hq rps_rg)).base (t1.trans t2))
end
end PV

namespace PV
open PySem PySem.Spec L2 PyProof.Rows

/-! ### a slot's list is written -/
def slL : Sl → Option (List P)
  | .own (.lst xs) => some xs
  | .loan (.lst xs) => some xs
  | _ => none
theorem slL_ow {sl : Sl} {xs : List P} (h : slL sl = some xs) : sl.ow = some (.lst xs) := by
  cases sl with
  | own o => cases o <;> cases h; rfl
  | loan o => cases o <;> cases h; rfl
  | _ => cases h
def getL (π : En) (i : Nat) : Option (List P) := (π[i]?).bind slL
theorem getL_at {π : En} {i : Nat} {xs : List P} (h : getL π i = some xs) : ∃ sl, π[i]? = some sl ∧ slL sl = some xs := by
  unfold getL at h
  cases q : π[i]? with
  | none => rw [q] at h; cases h
  | some sl => rw [q] at h; exact ⟨sl, rfl, h⟩
def putL (π : En) (i : Nat) (ys : List P) : En := match π[i]? with
  | some sl => π.set i (sl.put (.lst ys))
  | none => π
section
variable {c : Ctx} {F H : Hp} {π : En} {σ : L2.St} {i : Nat} {xs : List P}
theorem SR.getL (s : SR c F π σ H) (h : getL π i = some xs) : ∃ a vs, σ[i]? = some (some (.ref a)) ∧ H a = some (.lst vs) ∧ Rps c F xs vs := by
  obtain ⟨sl, h1, h2⟩ := getL_at h
  obtain ⟨a, e, _, vs, q1, q2⟩ := s.ow i sl _ h1 (slL_ow h2)
  exact ⟨a, vs, e, q1, q2⟩
theorem SR.putL {ys : List P} {us : List V} {a : Addr} (s : SR c F π σ H) (h : PV.getL π i = some xs) (hσ : σ[i]? = some (some (.ref a))) (r : Rps c F ys us) : SR c F (putL π i ys) σ (L2.upd H a (.lst us)) ∧ Tr F π σ H F (putL π i ys) σ (L2.upd H a (.lst us)) := by
  obtain ⟨sl, h1, h2⟩ := getL_at h
  unfold PV.putL
  rw [h1]
  exact s.put h1 (slL_ow h2) hσ ⟨us, upd_same, r⟩
end
/-- a method of a list: what it answers, what the list then is -/
def MlV (c : Ctx) (r : V → List V → Hp → VK → Prop) (o : List P → List P → Option (P × List P)) : Prop := ∀ (F H : Hp) (xs ps : List P) (vs ws : List V) (a : Addr) (q : P) (ys : List P) (Q : VK), H a = some (.lst vs) → Rps c F xs vs → Rps c F ps ws → o xs ps = some (q, ys) →
  (∀ v us, Rp c F q v → Rps c F ys us → Q v (L2.upd H a (.lst us))) → r (.ref a) ws H Q
def mutR (o : List P → List P → Option (P × List P)) (i : Nat) (rs : List Rs) : M Rs := fun π => match getL π i, vals rs with
  | some xs, some ps => (match o xs ps with
    | some (q, ys) => .ok (.val q) (putL π i ys)
    | none => .bad)
  | _, _ => .bad
def mutF (o : List P → List P → Option (P × List P)) (i : Nat) (fa : M (List Rs)) : M Rs := fun π => if (getL π i).isSome then (fa π).bind (mutR o i) else .bad
section
variable {X : Cx} {c : Ctx} {w : Wi} {e : Expr} {es : List Expr} {name x : Str} {apos cpos pos : Pos} {id : String} {r : V → List V → Hp → VK → Prop} {o : List P → List P → Option (P × List P)} {i : Nat} {fa : M (List Rs)}
theorem tv_list {K : PySem.W.Frag} {a : Addr} {vs : List V} {H : Hp} (h : H a = some (.lst vs)) : tyV K "list" (.ref a) H := .inl ⟨rfl, vs, .of h⟩
theorem mut_post {W : WX} {F H H0 : Hp} {π π0 : En} {σ : L2.St} {rs : List Rs} {ws : List V} {a : Addr} {Q : VK} (hv : MlV c r o) (s : SR c F π σ H) (hr : RRs c π0 H0 F π σ H rs ws) (hσ : σ[i]? = some (some (.ref a)))
    (po : Po c W F π σ H (mutR o i rs π) (fun r' π' F' H' => ∀ v, RR c π0 H0 F' π' σ H' r' v → Q v H')) : r (.ref a) ws H Q := by
  unfold mutR at po
  cases e1 : getL π i with
  | none => rw [e1] at po; exact po.elim
  | some xs =>
    cases e2 : vals rs with
    | none => rw [e1, e2] at po; exact po.elim
    | some ps =>
      cases e3 : o xs ps with
      | none => simp only [e1, e2, e3] at po; exact po.elim
      | some qy =>
        obtain ⟨q, ys⟩ := qy
        simp only [e1, e2, e3] at po
        obtain ⟨b, vs, h1, h2, h3⟩ := s.getL e1
        rw [hσ] at h1
        cases h1
        refine hv F H xs ps vs ws a q ys Q h2 h3 (vals_rps hr e2) e3 fun v us rv ru => ?_
        obtain ⟨s2, t2⟩ := s.putL e1 hσ ru
        exact po F _ t2 s2 v rv
theorem p_mut (pa : PlainAttrs "list") (slot : Slot "list" name id) (hty : typeOf (.builtin id) = pure (.type "method_descriptor")) (hm : MtR X id r) (hv : MlV c r o) (ho : PE X (.Name x pos) (tE c w (varF i))) (ha : PA X (e :: es) (tR c w fa))
    (hbase : attributeBase (.Name x pos) name X.env (eval (.Name x pos) X.env) = eval (.Name x pos) X.env := by rfl)
    (hfew : ((backTo cpos (starEach (e :: es) X.env)).all (fun x => !x.1) && (backToKw cpos (keywordEach [] X.env)).all (fun x => x.1.isSome)
      && decide ((e :: es).length + ([] : List Keyword).length + (if ([] : List Keyword).isEmpty then 0 else 1) < 30)) = true := by rfl)
    (hline : (apos.endLine == cpos.line) = true := by rfl) (hs : starEach (e :: es) X.env = (false, eval e X.env) :: starEach es X.env := by rfl) (hplain : (backTo cpos (starEach es X.env)).any (·.1) = false := by rfl) :
    PE X (.Call (.Attribute (.Name x pos) name apos) (e :: es) [] cpos) (tE c w (mutF o i fa)) :=
  pe_weak (pe_bm pa slot hty hm ho ha hbase hfew hline hs hplain) fun σ H Q ⟨F, π, gg, s, po⟩ => by
    unfold mutF at po
    cases e1 : getL π i with
    | none => rw [e1] at po; exact po.elim
    | some xs =>
      rw [e1] at po
      obtain ⟨sl, h1, h2⟩ := getL_at e1
      obtain ⟨a, vs, h3, h4, h5⟩ := s.getL e1
      refine ⟨F, π, gg, s, ?_⟩
      have hvar : varF i π = .ok (.bor i) π := by
        unfold varF
        rw [h1]
        cases sl with
        | own o => rfl
        | loan o => rfl
        | _ => cases h2
      rw [hvar]
      intro F1 H1 t1 s1 v hv'
      have hv2 : v = .ref a := by
        have : σ[i]? = some (some v) := hv'
        rw [h3] at this
        exact (Option.some.inj (Option.some.inj this)).symm
      subst hv2
      obtain ⟨b, vs1, q3, q4, q5⟩ := s1.getL e1
      rw [h3] at q3
      cases q3
      refine ⟨tv_list q4, F1, π, w.mono _ _ t1.le gg, s1, (Po.split (Po.from po t1)).mono fun rs π2 F2 H2 t2 s2 p2 ws hws => ?_⟩
      exact mut_post hv s2 hws h3 (p2.mono fun r' π' F' H' t' s' k v hr => k v (RR.base hr t1 : RR c π H F' π' σ H' r' v))
theorem p_mut0 (pa : PlainAttrs "list") (slot : Slot "list" name id) (hty : typeOf (.builtin id) = pure (.type "method_descriptor")) (hm : MtR X id r) (hv : MlV c r o) (ho : PE X (.Name x pos) (tE c w (varF i)))
    (hbase : attributeBase (.Name x pos) name X.env (eval (.Name x pos) X.env) = eval (.Name x pos) X.env := by rfl) (hline : (apos.endLine == cpos.line) = true := by rfl) :
    PE X (.Call (.Attribute (.Name x pos) name apos) [] [] cpos) (tE c w (mutF o i nilF)) :=
  pe_weak (pe_bm0 pa slot hty hm ho hbase hline) fun σ H Q ⟨F, π, gg, s, po⟩ => by
    unfold mutF at po
    cases e1 : getL π i with
    | none => rw [e1] at po; exact po.elim
    | some xs =>
      rw [e1] at po
      obtain ⟨sl, h1, h2⟩ := getL_at e1
      obtain ⟨a, vs, h3, h4, h5⟩ := s.getL e1
      refine ⟨F, π, gg, s, ?_⟩
      have hvar : varF i π = .ok (.bor i) π := by
        unfold varF
        rw [h1]
        cases sl with
        | own o => rfl
        | loan o => rfl
        | _ => cases h2
      rw [hvar]
      intro F1 H1 t1 s1 v hv'
      have hv2 : v = .ref a := by
        have : σ[i]? = some (some v) := hv'
        rw [h3] at this
        exact (Option.some.inj (Option.some.inj this)).symm
      subst hv2
      obtain ⟨b, vs1, q3, q4, q5⟩ := s1.getL e1
      rw [h3] at q3
      cases q3
      refine ⟨tv_list q4, ?_⟩
      exact mut_post (rs := []) (π0 := π) (H0 := H) hv s1 rfl h3 (Po.from po t1)
/-! append, insert, pop -/
def appP : List P → List P → Option (P × List P)
  | xs, [p] => if xs.length ≤ 1000000 then some (.non, xs ++ [p]) else none
  | _, _ => none
theorem v_append : MlV c rAppend appP := by
  intro F H xs ps vs ws a q ys Q h1 h2 h3 e k
  have hs := sizeLine_eq
  unfold appP at e
  split at e
  · rename_i p
    split at e
    · cases e
      obtain ⟨v, l, rfl, r1, r2⟩ := rps_inv h3
      have := rps_nil_inv r2
      subst this
      have n1 := rps_len h2
      exact ⟨a, vs, v, rfl, rfl, h1, by omega, k _ _ mk_non (rps_append h2 (rps_cons r1 rps_nil))⟩
    · cases e
  · cases e
def insX {α : Type} (xs : List α) (k : Nat) (y : α) : List α := xs.take k ++ y :: xs.drop k
def rIns : V → List V → Hp → VK → Prop := fun x vs H Q => ∃ (l : Addr) (xs : List V) (i : Int) (y : V), x = .ref l ∧ vs = [.int i, y] ∧ H l = some (.lst xs) ∧ 0 ≤ i ∧ i ≤ 1000000 ∧ xs.length < sizeLine ∧ Q .non (L2.upd H l (.lst (insX xs i.toNat y)))
theorem mt_insert : MtR X "list.insert" rIns := by
  intro pins s σ H x vs v us Q I rx rv h
  obtain ⟨l, xs, i, y, rfl, rfl, hH, hi0, hi1, hz, q⟩ := h
  cases rx
  obtain ⟨u0, u, rfl, r0, ru⟩ := rv.two
  obtain ⟨t, rfl⟩ := r0
  obtain ⟨z, its, n, r, hl, e⟩ := I.lstM hH
  have hfit : Builtin.List.listFitsIndex i = true := by
    have := line63
    unfold Builtin.List.listFitsIndex
    simp
    omega
  refine call_meets F.slot_list_insert ⟨_, e, rfl⟩ F.entry_list_insert (F.args_list_insert_3 _ _ _) (AutoSeq1.list_insert_list_int_val_1 l its.toArray n i t u (by simp [hfit]) (by rw [List.size_toArray]; omega)) ⟨e, ?_⟩
  refine ⟨.non, _, I.lset (its' := insX its i.toNat u) (ys := insX xs i.toNat y) hH e ?_ ?_ ?_, rfl, q⟩
  · have h0 : ¬ i < 0 := by omega
    simp only [if_neg h0]
    apply Array.toList_inj.mp
    unfold insX
    simp
    have e1 : List.take (min i.toNat its.length) its = List.take i.toNat its := by
      rcases Nat.le_total i.toNat its.length with h | h
      · rw [Nat.min_eq_left h]
      · rw [Nat.min_eq_right h, List.take_length, List.take_of_length_le h]
    have e2 : List.drop (min i.toNat its.length) its = List.drop i.toNat its := by
      rcases Nat.le_total i.toNat its.length with h | h
      · rw [Nat.min_eq_left h]
      · rw [Nat.min_eq_right h, List.drop_length, List.drop_of_length_le h]
    have e3 : List.take (its.length - min i.toNat its.length) (List.drop (min i.toNat its.length) its) = List.drop (min i.toNat its.length) its := List.take_of_length_le (by rw [List.length_drop]; omega)
    rw [e3, e1, e2]
  · unfold insX
    exact (r.take _).append (.cons ru (r.drop _))
  · unfold insX
    simp
    omega
def insP : List P → List P → Option (P × List P)
  | xs, [.int i, p] => if 0 ≤ i ∧ i ≤ 1000000 ∧ xs.length ≤ 1000000 then some (.non, insX xs i.toNat p) else none
  | _, _ => none
theorem v_insert : MlV c rIns insP := by
  intro F H xs ps vs ws a q ys Q h1 h2 h3 e k
  have hs := sizeLine_eq
  unfold insP at e
  split at e
  · rename_i i p
    split at e
    · cases e
      obtain ⟨v0, l0, rfl, r0, r9⟩ := rps_inv h3
      obtain ⟨v, l, rfl, r1, r2⟩ := rps_inv r9
      have := rps_nil_inv r2
      subst this
      cases rp_int r0
      have n1 := rps_len h2
      refine ⟨a, vs, i, v, rfl, rfl, h1, by omega, by omega, by omega, k _ _ mk_non ?_⟩
      unfold insX
      exact rps_append (rps_take _ h2) (rps_cons r1 (rps_drop _ h2))
    · cases e
  · cases e
def popP : List P → List P → Option (P × List P)
  | xs, [] => match xs[xs.length - 1]? with
    | some q => some (q, xs.dropLast)
    | none => none
  | _, _ => none
theorem rps_dropLast {F : Hp} : ∀ {ps : List P} {vs : List V}, Rps c F ps vs → Rps c F ps.dropLast vs.dropLast := fun {ps vs} r => by
  rw [List.dropLast_eq_take, List.dropLast_eq_take, rps_len r]
  exact rps_take _ r
theorem v_pop : MlV c rPop popP := by
  intro F H xs ps vs ws a q ys Q h1 h2 h3 e k
  unfold popP at e
  split at e
  · split at e
    · rename_i p hp
      cases e
      have := rps_nil_inv h3
      subst this
      obtain ⟨v, e1, r1⟩ := rps_get h2 hp
      rw [rps_len h2] at e1
      exact ⟨a, vs, v, rfl, rfl, h1, e1, k _ _ r1 (rps_dropLast h2)⟩
    · cases e
  · cases e
end
end PV

namespace PV
open PySem PySem.Spec L2 PyProof.Rows

/-! ### xs[k] = e, xs a slot's list -/
def stR (i : Nat) (p : P) (r : Rs) : M Fl := fun π => match r, getL π i with
  | .val (.int k), some xs => (match ixN xs.length k with
    | some j => .ok .nx (putL π i (xs.set j p))
    | none => .bad)
  | _, _ => .bad
def stF (i : Nat) (fe : M P) (fi : M Rs) : M Fl := fun π => (fe π).bind fun p π1 => if (getL π1 i).isSome then (fi π1).bind (stR i p) else .bad
section
variable {X : Cx} {c : Ctx} {w : Ws} {e ie : Expr} {x : Str} {xp tp pos : Pos} {i : Nat} {fe : M P} {fi : M Rs}
theorem s_st (ho : PE X (.Name x xp) (tE c w (varF i))) (hi : PE X ie (tE c w fi)) (he : PE X e (tV c w fe))
    (ha : ∀ v, assign (.Subscript (.Name x xp) ie tp) X.env v = (do
      let ov ← holding [v] (eval (.Name x xp) X.env)
      let iv ← holding [v, ov] (eval ie X.env)
      standAt tp
      holding [v, ov, iv] (setItem ov iv v)
      release [v, ov, iv] []) := by intro _; rfl)
    (hs : swapsWithSole [.Subscript (.Name x xp) ie tp] e pos.line X.env = pure false := by rfl) (hw : swappedStores [.Subscript (.Name x xp) ie tp] e X.env = pure none := by rfl)
    (h1 : (assignEach [.Subscript (.Name x xp) ie tp] X.env).map (·.2) = [assign (.Subscript (.Name x xp) ie tp) X.env] := by rfl) :
    PS X (.Assign [.Subscript (.Name x xp) ie tp] e pos) (tS c w (stF i fe fi)) :=
  ps_weak (ps_asg he (pg_sub ho hi set_list ha) hs hw h1) fun D σ H ⟨F, π, gg, s, po⟩ => by
    refine ⟨F, π, gg, s, (PoS.split po).mono fun p π1 F1 H1 t1 s1 p1 v hp => ?_⟩
    cases e1 : getL π1 i with
    | none => rw [e1] at p1; exact p1.elim
    | some xs =>
      rw [e1] at p1
      obtain ⟨sl, h1, h2⟩ := getL_at e1
      refine ⟨F1, π1, w.mono _ _ t1.le gg, s1, ?_⟩
      have hvar : varF i π1 = .ok (.bor i) π1 := by
        unfold varF
        rw [h1]
        cases sl with
        | own o => rfl
        | loan o => rfl
        | _ => cases h2
      rw [hvar]
      intro F2 H2 t2 s2 v2 hv2
      refine ⟨F2, π1, w.mono _ _ (t1.trans t2).le gg, s2, (PoS.split (PoS.from (show PoS c w.W F1 π1 σ H1 ((fi π1).bind (stR i p)) _ from p1) t2)).mono fun r π3 F3 H3 t3 s3 p3 y hy => ?_⟩
      unfold stR at p3
      cases r with
      | own o => exact p3.elim
      | bor j => exact p3.elim
      | val q =>
        cases q with
        | int k =>
          cases e3 : getL π3 i with
          | none => simp only [e3] at p3; exact p3.elim
          | some ys =>
            cases e4 : ixN ys.length k with
            | none => simp only [e3, e4] at p3; exact p3.elim
            | some j =>
              simp only [e3, e4] at p3
              obtain ⟨a, vs, q1, q2, q3⟩ := s3.getL e3
              have hv3 : v2 = .ref a := by
                have z : σ[i]? = some (some v2) := hv2
                rw [q1] at z
                exact (Option.some.inj (Option.some.inj z)).symm
              obtain ⟨s4, t4⟩ := s3.putL e3 q1 (rps_set j q3 (Rp.mono (t2.trans t3).le _ _ hp))
              refine ⟨a, vs, k, j, hv3, rp_int (show Rp c F3 (.int k) y from hy), q2, by rw [← rps_len q3]; exact e4, ?_⟩
              exact p3 F3 σ _ t4 s4
        | _ => exact p3.elim
end
/-! ### x, y = e, e' -/
def RQ (c : Ctx) (F : Hp) (π : En) (σ : L2.St) (H : Hp) : Rs → V → Prop
  | .val p, v => Rp c F p v
  | .own o, v => ∃ a, v = .ref a ∧ F a = none ∧ ¬ Own π σ a ∧ OwR c F H o a
  | .bor _, _ => True
theorem RR.rq {c : Ctx} {π0 : En} {H0 F : Hp} {π : En} {σ : L2.St} {H : Hp} {r : Rs} {v : V} (h : RR c π0 H0 F π σ H r v) : RQ c F π σ H r v := by
  cases r with
  | val p => exact h
  | own o => obtain ⟨a, e, h1, h2, h3, _⟩ := h; exact ⟨a, e, h1, h2, h3⟩
  | bor i => trivial
theorem setR_step {c : Ctx} {W : WX} {F H : Hp} {π : En} {σ : L2.St} {i : Nat} {r : Rs} {v : V} {α : Type} {f : Fl → M α} {J : α → En → Hp → L2.St → Hp → Prop} {F0 H9 : Hp} {π9 : En} {σ9 : L2.St} (s : SR c F π σ H) (hr : RQ c F π σ H r v) (po : PoS c W F0 π9 σ9 H9 ((setR i r π).bind f) J) :
    ∃ π', setR i r π = .ok .nx π' ∧ SR c F π' (σ.set i (some v)) H ∧ (∀ F1 π1 σ1 H1, Tr F1 π1 σ1 H1 F π σ H → (∀ a o, v = .ref a → r = .own o → Fr0 π1 σ1 H1 a) → Tr F1 π1 σ1 H1 F π' (σ.set i (some v)) H) ∧
      ∀ b, Own π' (σ.set i (some v)) b → Own π σ b ∨ (v = .ref b ∧ ∃ o, r = .own o) := by
  simp only [setR] at po ⊢
  cases q : π[i]? with
  | none => rw [q] at po; exact po.elim
  | some sl =>
    rw [q] at po
    have hi : i < π.length := (List.getElem?_eq_some_iff.mp q).1
    have hσ : i < σ.length := by rw [← s.len]; exact hi
    have own' : ∀ (new : Sl) b, Own (π.set i new) (σ.set i (some v)) b → Own π σ b ∨ (v = .ref b ∧ ∃ o, new.ow = some o) := fun new b ⟨j, sl, o, e1, e2, e3⟩ => by
      by_cases z : j = i
      · subst z
        rw [List.getElem?_set_self hi] at e1
        rw [List.getElem?_set_self hσ] at e3
        cases e1
        exact .inr ⟨Option.some.inj (Option.some.inj e3), o, e2⟩
      · rw [List.getElem?_set_ne (Ne.symm z)] at e1 e3
        exact .inl ⟨j, sl, o, e1, e2, e3⟩
    have main : (∀ o, sl ≠ .loan o) → PoS c W F0 π9 σ9 H9 (Out.bind (match r with | .val p => .ok .nx (π.set i (.val p)) | .own o => .ok .nx (π.set i (.own o)) | .bor _ => Out.bad) f) J → ∃ π', (match r with | .val p => Out.ok Fl.nx (π.set i (.val p)) | .own o => .ok .nx (π.set i (.own o)) | .bor _ => Out.bad) = .ok .nx π' ∧ SR c F π' (σ.set i (some v)) H ∧
        (∀ F1 π1 σ1 H1, Tr F1 π1 σ1 H1 F π σ H → (∀ a o, v = .ref a → r = .own o → Fr0 π1 σ1 H1 a) → Tr F1 π1 σ1 H1 F π' (σ.set i (some v)) H) ∧ ∀ b, Own π' (σ.set i (some v)) b → Own π σ b ∨ (v = .ref b ∧ ∃ o, r = .own o) := fun hn po => by
      have hl : ∀ o, π[i]? ≠ some (.loan o) := fun o z => by rw [q] at z; exact hn o (Option.some.inj z)
      cases r with
      | val p =>
        obtain ⟨s2, t2⟩ := s.set hi hl (.val p) (some v) (fun p' e => by cases e; exact ⟨v, rfl, hr⟩) (fun o e => by cases e) (fun o e => by cases e)
        refine ⟨_, rfl, s2, fun F1 π1 σ1 H1 t fr => t2 _ _ _ _ t (fun a e ⟨o, h⟩ => by cases h), fun b hb => ?_⟩
        rcases own' _ b hb with h | ⟨_, o, h⟩
        · exact .inl h
        · cases h
      | own o =>
        obtain ⟨a, rfl, h1, h2, h3⟩ := hr
        obtain ⟨s2, t2⟩ := s.set hi hl (.own o) (some (.ref a)) (fun p' e => by cases e) (fun o e => by cases e; exact ⟨a, rfl, h1, h3, h2⟩) (fun o e => by cases e)
        refine ⟨_, rfl, s2, fun F1 π1 σ1 H1 t fr => t2 _ _ _ _ t (fun b e _ => by cases e; exact fr a o rfl rfl), fun b hb => ?_⟩
        rcases own' _ b hb with h | ⟨h, _⟩
        · exact .inl h
        · exact .inr ⟨h, o, rfl⟩
      | bor j => exact po.elim
    cases sl with
    | loan o => exact po.elim
    | no => exact main (fun o z => by cases z) po
    | val p => exact main (fun o z => by cases z) po
    | own o => exact main (fun o z => by cases z) po
def parF (i j : Nat) (f g : M Rs) : M Fl := fun π => (f π).bind fun r1 π1 => (g π1).bind fun r2 π2 => (setR i r1 π2).bind fun _ => setR j r2
section
variable {X : Cx} {c : Ctx} {w : Ws} {a b : Expr} {x y : Str} {px py pt pos : Pos} {kt k2 pt2} {i j : Nat} {f g : M Rs}
theorem s_par (hc : X.calm = true) (hN : X.N.Nodup) (hi : X.N[i]? = some x) (hj : X.N[j]? = some y) (hij : i ≠ j)
    (hx : X.env.scope.names.lookup x = some .local) (hy : X.env.scope.names.lookup y = some .local) (ha : PE X a (tE c w f)) (hb : PE X b (tE c w g))
    (hw : swappedStores [.Tuple [.Name x px, .Name y py] kt pt] (.Tuple [a, b] k2 pt2) X.env = pure (some [x, y]))
    (s1 : starEach [a, b] X.env = (false, eval a X.env) :: starEach [b] X.env := by rfl) (s2 : starEach [b] X.env = (false, eval b X.env) :: starEach [] X.env := by rfl)
    (hs : swapsWithSole [.Tuple [.Name x px, .Name y py] kt pt] (.Tuple [a, b] k2 pt2) pos.line X.env = pure false := by rfl) :
    PS X (.Assign [.Tuple [.Name x px, .Name y py] kt pt] (.Tuple [a, b] k2 pt2) pos) (tS c w (parF i j f g)) :=
  ps_weak (ps_par hc hN hi hj hij hx hy (pa_cons ha (pa_cons hb pa_nil s2) s1) hw hs) fun D σ H ⟨F, π, gg, s, po⟩ => by
    refine ⟨F, π, gg, s, ?_⟩
    unfold parF at po
    cases e0 : f π with
    | bad => rw [e0] at po; exact po
    | exc C qs π1 => rw [e0] at po; exact fun F' H' d t s => po F' σ H' d t s
    | ok r1 π1 =>
      rw [e0] at po
      intro F1 H1 t1 s1 v hv
      refine ⟨F1, π1, w.mono _ _ t1.le gg, s1, ?_⟩
      simp only [Out.bind] at po
      cases e1 : g π1 with
      | bad => rw [e1] at po; exact po
      | exc C qs π2 => rw [e1] at po; exact fun F' H' d t s => po F' σ H' d (t1.trans t) s
      | ok r2 π2 =>
        rw [e1] at po
        intro F2 H2 t2 s2 u hu
        refine ⟨v, u, rfl, ?_⟩
        have hv2 := hv.step t2
        have po2 : PoS c w.W F π σ H ((setR i r1 π2).bind fun _ => setR j r2) (flK c D π σ H) := po
        obtain ⟨π3, e3, s3, t3, o3⟩ := setR_step s2 hv2.rq po2
        rw [e3] at po2
        have po3 : PoS c w.W F π σ H ((setR j r2 π3).bind fun fl π' => .ok fl π') (flK c D π σ H) := by
          have po2' : PoS c w.W F π σ H (setR j r2 π3) (flK c D π σ H) := po2
          cases e5 : setR j r2 π3 with
          | bad => rw [e5] at po2'; exact po2'
          | exc C qs π2 => rw [e5] at po2'; exact po2'
          | ok fl π4 => rw [e5] at po2'; exact po2'
        have T3 := t3 F π σ H (t1.trans t2) fun a o ev er => by
          subst er
          obtain ⟨a', e4, _, _, _, fr⟩ := hv2
          rw [ev] at e4
          cases e4
          exact fr
        have hu3 : RQ c F2 π3 (σ.set i (some v)) H2 r2 u := by
          cases r2 with
          | val p => exact hu
          | bor k => trivial
          | own o =>
            obtain ⟨a2, e4, h1, h2, h3, h4⟩ := hu
            refine ⟨a2, e4, h1, fun z => ?_, h3⟩
            rcases o3 a2 z with q | ⟨q, o1, q2⟩
            · exact h2 q
            · subst q2
              obtain ⟨a1, e5, k1, k2, k3, k4⟩ := hv
              rw [q] at e5
              cases e5
              obtain ⟨uu, hu1⟩ := k3.there
              rcases h4 with h4 | h4
              · rw [hu1] at h4; cases h4
              · exact k2 h4
        obtain ⟨π4, e4, s4, t4, _⟩ := setR_step s3 hu3 po3
        have po4 : PoS c w.W F π σ H (setR j r2 π3) (flK c D π σ H) := po2
        rw [e4] at po4
        refine po4 F2 _ H2 (t4 F π σ H T3 fun a o ev er => ?_) s4
        subst er
        obtain ⟨a', e5, _, _, _, fr⟩ := hu
        rw [ev] at e5
        cases e5
        exact Fr0.back t1 fr
end
end PV

set_option maxHeartbeats 2000000
/-! PVS: a def whose first statement is super().__init__(..), of an own exception class over ValueError. -/
namespace PV
open PySem PySem.Spec L2 NdefX PyProof.Rows

section
variable {X : Cx} {pins : List (Addr × Obj)} {σ : L2.St} {H : Hp} {s : Shared} {a C u : Addr} {E : Value → Shared → Prop} {A : Around}
/-- the bound __init__ of ValueError, called: nothing of it is told -/
theorem mw_call {us : List Value} {Q : Value → Shared → Prop} (T : OexC X.K C) (I : L2.Inv X pins σ H s) (e : H a = some (exo a C none)) (hu : s.heap.get? u = some (PySem.W.kxs_mw "ValueError.__init__" a)) (hl : us.length ≤ sizeLine) (h : ∀ s', L2.Inv X pins σ H s' → Q .none s') :
    wpAny (model X.prog X.w) A (call (.ref u) us) Q E s := by
  obtain ⟨nm, q, N, bs, bm, sn, sub, ab, col, dd, k0, k1, k2, k3, k5, hC, hbm⟩ := T.cls
  obtain ⟨t1, ho⟩ := exo_at I.hok e
  obtain ⟨hp, g, d, t, os⟩ := s
  refine wpAny_call (codeAny_of_tree ?_)
  show wpAny _ A.in1 (callAny (.ref u) ⟨us, []⟩) _ _ _
  simp only [callAny]
  refine wpAny_bind (wpAny_load hu ?_)
  simp only [PySem.W.kxs_mw, show (Value.type "method-wrapper" == Value.type "method" || Value.type "method-wrapper" == Value.type "builtin_function_or_method" || Value.type "method-wrapper" == Value.type "method-wrapper") = true by decide, if_true]
  refine PySem.W.KFB.if_so (by decide) ?_
  refine wpAny_bind (PySem.W.check_bound_init F.excBase_ValueError.toExcCallFacts (I.kIn _ _ hC) ho rfl ?_)
  refine wpAny_bind (wpAny_pure (wpAny_pure ?_))
  refine ⟨plainId_quiet F.excBase_ValueError.init.plain _, codeAny_builtin F.excBase_ValueError.initEntry ?_⟩
  refine PySem.W.exc_init_tree (cls := .ref C) (t0 := t1) (dv := none) (c2 := .none) (c3 := .none) (b4 := .bool false) ho hl fun h' k hx _ => ?_
  have J := I.write (t' := t) (x := a) (e := a) (o := exo a C none) (by rw [e]; exact True.intro) (.inl rfl) k ⟨_, hx⟩ (exo_ok hx)
  have eu : upd H a (exo a C none) = H := by
    funext b
    by_cases hb : b = a
    · rw [hb, upd_same, e]
    · rw [upd_ne hb]
  rw [eu] at J
  exact h _ J
end

/-- what the written part says around a def that says super() -/
structure SupAt (P : Program) (K : PySem.W.Frag) (cc D cda : Addr) : Prop where
  code : ∃ ccl cdd cvs ccs file tf, K.lookup cda = some ⟨ccl, cdd, .fields cvs, ccs⟩ ∧ cvs[2]? = some (.str file tf) ∧ ((P.main.file : Str) == file) = true
  cell : ∃ cl cld csl, K.lookup cc = some ⟨cl, cld, .cell (some (.ref D)), csl⟩
  cls : ∃ cd, PySem.W.clsIn K D = some cd
  top : (P.main.scope.names.lookup ("super" : Str)).isSome = false
  any : PySem.W.nsIn K cStatics "thirdparty.any" = some none
/-- the class of the object that is made -/
structure SupC (K : PySem.W.Frag) (C D : Addr) : Prop where
  oex : OexC K C
  mro : PySem.W.mroIn K C (.ref D) = some true
  sup : PySem.W.ks_superIn K C D "__init__" = some (some (.builtin "ValueError.__init__"))
  sub : PySem.W.subIn K (.ref C) (.type "ValueError") = some true

theorem super_fn {CX : CXT} {P : Program} {w : World} {K : PySem.W.Frag} {mg : Str → Option Value} {base : Heap} {k : Nat} {f : Addr} {name qual : Str} {params : Arguments} {rest : List Stmt} {scope : Scope} {kV doc pm ct oc : Value} {an od : Option Addr} {cda cc D : Addr}
    {osl : Array (Option Value)} {N ps : List Str} {sp : Sp} {e : Expr} {es : List Expr} {p0 p1 ap cp ep : Pos} {ar : Arg}
    (lk : K.lookup f = some ⟨oc, od, .func (PySem.W.fnX name qual params (.Expr (.Call (.Attribute (.Call (.Name "super" p0) [] [] p1) "__init__" ap) (e :: es) [] cp) ep :: rest) scope [("__class__", cc)] .none kV doc pm an (.ref cda) ct), osl⟩)
    (hcd : PySem.W.codeIn K (.ref cda) qual = true) (S : NScope N ps ["__class__"] scope) (len : ∀ vs H Q E, sp vs H Q E → vs.length = ps.length)
    (T : SupAt P K cc D cda) (hms : mg "super" = none) (hks : scope.names.lookup ("super" : Str) = some .globalImplicit) (hp : (params.posonlyargs ++ params.args).head? = some ar) (har : ps[0]? = some ar.arg)
    (hee : ∀ env : Env, starEach (e :: es) env = (false, eval e env) :: starEach es env) (hpl : ∀ env : Env, (backTo cp (starEach es env)).any (·.1) = false) (hps : ∀ env : Env, ∃ pl : Sem Bool, eval (.Call (.Attribute (.Call (.Name "super" p0) [] [] p1) "__init__" ap) (e :: es) [] cp) env = (do
      let ov ← attributeBase (.Call (.Name "super" p0) [] [] p1) "__init__" env (eval (.Call (.Name "super" p0) [] [] p1) env)
      standAt ap.atName
      let (f, first) ← holding [ov] (getMethod ov "__init__" pl)
      callWith cp f first (backTo cp (starEach (e :: es) env)) []))
    (hi : ∀ L, interactive (PySem.W.envX qual scope L f (.ref cda) [("__class__", cc)]) = false) (hsw : ∀ env : Env, swapsWith (.Call (.Attribute (.Call (.Name "super" p0) [] [] p1) "__init__" ap) (e :: es) [] cp) none ep.line env = pure false)
    (hbody : ∀ (A : Around) (outer : List Env) (s : Shared) (H : Hp) (vs : List V) (Q : VK) (E : XK), Room k (A.deeper (envF ⟨name, qual, params, .Expr (.Call (.Attribute (.Call (.Name "super" p0) [] [] p1) "__init__" ap) (e :: es) [] cp) ep :: rest, scope, [("__class__", cc)], cda⟩ f s.heap.objs.size)) → sp vs H Q E →
      ∃ a C ta t, vs[0]? = some (.ref a) ∧ H a = some (exo a C none) ∧ SupC K C D ∧
        PA (ncx CX P w K mg base N ⟨name, qual, params, .Expr (.Call (.Attribute (.Call (.Name "super" p0) [] [] p1) "__init__" ap) (e :: es) [] cp) ep :: rest, scope, [("__class__", cc)], cda⟩ f A outer s H E) (e :: es) ta ∧
        PSs (ncx CX P w K mg base N ⟨name, qual, params, .Expr (.Call (.Attribute (.Call (.Name "super" p0) [] [] p1) "__init__" ap) (e :: es) [] cp) ep :: rest, scope, [("__class__", cc)], cda⟩ f A outer s H E) rest t ∧
        ta (startF N vs [none]) H (fun ws H1 => ws.length ≤ 1000 ∧ H1 a = some (exo a C none) ∧ t { nx := fun _ H' => Q .non H', rt := Q } (startF N vs [none]) H1)) :
    FnOk P w K mg base CX (k + 1) f (PySem.W.fnX name qual params (.Expr (.Call (.Attribute (.Call (.Name "super" p0) [] [] p1) "__init__" ap) (e :: es) [] cp) ep :: rest) scope [("__class__", cc)] .none kV doc pm an (.ref cda) ct) ps sp := by
  refine ⟨len, fun A outer s H args us vs Q E hr e0 hb r hsp => ?_⟩
  have hl := len _ _ _ _ hsp
  have KX : K.In s.heap := e0.mod.kin.keeps fun b o e => (e0.bs b o e).1
  have lim : s.heap.NoLimit := e0.mod.nolimit.keeps fun b o e => (e0.bs b o e).1
  obtain ⟨ccl, cdd, cvs, ccs, file, tf, lcode, hvs, hfile⟩ := T.code
  obtain ⟨cl0, cld, csl, lcell⟩ := T.cell
  have inB : ∀ {b : Addr} {o : Obj}, K.lookup b = some o → H b = none := fun {b o} q => (e0.bs b o (e0.mod.kin _ _ q)).2
  have Cc : CellsAt [("__class__", cc)] ["__class__"] [none] s.heap H := by
    have lk1 : ∀ y c, List.lookup y [(("__class__" : Str), cc)] = some c → y = "__class__" ∧ c = cc := fun y c q => by
      have q' : (match y == ("__class__" : Str) with | true => some cc | false => none) = some c := q
      cases e3 : y == ("__class__" : Str) with
      | true => rw [e3] at q'; exact ⟨by simpa using e3, (Option.some.inj q').symm⟩
      | false => rw [e3] at q'; cases q'
    refine ⟨rfl, fun y c q => ?_, fun x y c q1 q2 => ?_, fun i y q => ?_⟩
    · obtain ⟨_, rfl⟩ := lk1 y c q
      exact ⟨inB lcell, _, _, KX _ _ lcell, rfl⟩
    · rw [(lk1 x c q1).1, (lk1 y c q2).1]
    · have hy : y = "__class__" := by
        cases i with
        | zero => simpa using q.symm
        | succ i => simp at q
      subst hy
      refine ⟨cc, rfl, fun v q => ?_⟩
      cases i with
      | zero => simp at q
      | succ i => simp at q
  refine ks_codeAny_call_defAt (binds := ps.zip us) hr.depth (KX _ _ lk) rfl lim (PySem.W.codeRec_of KX hcd) rfl hb S.nocell (fun ⟨n, _⟩ hy => S.par n (List.of_mem_zip hy).1) (fun h₁ hns kp => ?_) S.co S.gen S.kind
  have kp' : ∀ b o, s.heap.get? b = some o → h₁.get? b = some o := kp
  obtain ⟨a, C, ta, t, hv0, hHa, SC, hA, hR, hq⟩ := hbody A outer s H vs Q E (hr.deeper _) hsp
  have I : L2.Inv (ncx CX P w K mg base N ⟨name, qual, params, .Expr (.Call (.Attribute (.Call (.Name "super" p0) [] [] p1) "__init__" ap) (e :: es) [] cp) ep :: rest, scope, [("__class__", cc)], cda⟩ f A outer s H E) [] (startF N vs [none]) H { s with heap := h₁, toks := s.toks + (ps.zip us).length } :=
    inv_startN S hr.hd e0 hl r Cc hns kp'
  have fin : ∀ {σ' : L2.St} {H' : Hp} {v : V} {u : Value} {s' : Shared}, L2.Inv (ncx CX P w K mg base N ⟨name, qual, params, .Expr (.Call (.Attribute (.Call (.Name "super" p0) [] [] p1) "__init__" ap) (e :: es) [] cp) ep :: rest, scope, [("__class__", cc)], cda⟩ f A outer s H E) [] σ' H' s' → L2.RelV v u → Q v H' → CE outer P w H s Q u s' :=
    fun {σ' H' v u s'} J rv q => ⟨v, H', J.os, J.bare, J.base, J.hok, rv, q⟩
  obtain ⟨cdD, hD⟩ := T.cls
  obtain ⟨u0, hu0, ru0⟩ := r.get hv0
  obtain rfl : u0 = Value.ref a := ru0
  have KI := I.kIn
  obtain ⟨oD, hD1, hD2⟩ : ∃ oD, h₁.get? D = some oD ∧ oD.data = .cls cdD := by
    unfold PySem.W.clsIn at hD
    split at hD
    · rename_i c d cd' sl ho
      cases hD
      exact ⟨_, KI _ _ ho, rfl⟩
    · cases hD
  obtain ⟨t1, hoa⟩ := exo_at I.hok hHa
  obtain ⟨pl, hcall⟩ := hps (PySem.W.envX qual scope s.heap.objs.size f (.ref cda) [("__class__", cc)])
  have hkc : scope.names.lookup ("__class__" : Str) = some .free := S.frk _ List.mem_cons_self
  have ndP : ps.Nodup := by
    have q : (ps ++ [("__class__" : Str)]).Nodup := by rw [← S.pre]; exact S.nd.sublist (List.take_sublist _ N)
    exact (List.nodup_append.mp q).1
  show _root_.PySem.wpAt (model P w) (A.deeper (PySem.W.ksEnv qual scope s.heap.objs.size f (.ref cda) cc)) (.func _ (PySem.W.ksEnv qual scope s.heap.objs.size f (.ref cda) cc)) (execs _ (PySem.W.ksEnv qual scope s.heap.objs.size f (.ref cda) cc)) _ _ _
  refine ks_wpAt_execs_cons (ks_wpAt_Expr_any (ks_wpAt_MethodCall ?_ hcall) (hi _) (hsw _))
  refine ks_wpAt_super_base (env := PySem.W.ksEnv qual scope s.heap.objs.size f (.ref cda) cc) hks hkc (by decide) rfl (KI _ _ lk) rfl hp rfl (KI _ _ lcode) rfl hvs hfile T.top ?_
  obtain ⟨mb, hb1, hb2⟩ := I.mod.blt
  refine PySem.W.ks_loadName_global S.kind hks (Calls.loadGlobal_builtin (env := PySem.W.ksEnv qual scope s.heap.objs.size f (.ref cda) cc) (I.mod.glob.keeps I.bk) hms (hb1.keeps I.bk) ((hb2 _ (by decide)).trans (show bootBuiltins "super" = some (.type "super") by decide +kernel)) ⟨rfl, ?_⟩)
  refine wpAny_loadName_free S.kind hkc rfl ⟨_, KI _ _ lcell, rfl⟩ ?_
  refine wpAny_loadName_local (m := fun y => (ps.zip us).reverse.lookup y) S.kind (S.par _ (List.mem_of_getElem? har)) hns (zip_look ndP har hu0) ?_
  refine ks_wpAny_isType_cls hD1 hD2 ⟨rfl, ?_⟩
  refine ks_wpAny_call_super hD1 hD2 hoa rfl (fun c q => by cases q) (PySem.W.looks_mroIn KI SC.mro) (fun h2 hso k2 => ?_)
  have I2 := I.kept (t' := s.toks + (ps.zip us).length) k2
  cases hcm : PySem.W.clsIn K C with
  | none =>
    have z := SC.sup
    unfold PySem.W.ks_superIn at z
    rw [hcm] at z
    cases z
  | some cd =>
    have hsup := SC.sup
    unfold PySem.W.ks_superIn at hsup
    rw [hcm] at hsup
    have KI2 := I2.kIn
    have hoa2 := k2 _ _ hoa
    have hxC : a ≠ C := fun z => by
      unfold PySem.W.clsIn at hcm
      split at hcm
      · rename_i c d cd' sl ho
        have q := inB ho
        rw [← z, hHa] at q
        cases q
      · cases hcm
    have LT : PySem.W.Looks (model P w) h2 (typeOf (.ref a)) (.ref C) := fun A Q E s k q => wpAny_typeOf_ref (k _ _ hoa2) q
    have LI : PySem.W.Looks (model P w) h2 (isInstance (.ref a) (.type "ValueError")) true := LT.andThen (PySem.W.looks_subIn KI2 SC.sub)
    refine PySem.W.kxs_getMethod PySem.W.kxs_ValueError hso (PySem.W.looks_opaque KI2 T.any) (l₀ := cd.mro) ?_ rfl KI2 hsup LI hxC (by decide) ?_
    · exact fun A Q E s k q => wpAny_bind ((PySem.W.looks_clsIn KI2 hcm) A _ E s k (wpAny_pure q))
    · have I3 := I2.kept (h' := h2.push (PySem.W.kxs_mw "ValueError.__init__" a)) (t' := s.toks + (ps.zip us).length + 1) fun b o q => Heap.get?_push_of_some _ q
      have hu3 : (h2.push (PySem.W.kxs_mw "ValueError.__init__" a)).get? h2.objs.size = some (PySem.W.kxs_mw "ValueError.__init__" a) := Heap.get?_push_size _ rfl
      have I4 := I3.pins_of (pins' := [(h2.objs.size, PySem.W.kxs_mw "ValueError.__init__" a)]) fun p hp => by
        have e1 : p = (h2.objs.size, PySem.W.kxs_mw "ValueError.__init__" a) := by simpa using hp
        subst e1
        exact ⟨hu3, I2.hok.fresh (Nat.le_refl _), Nat.ne_of_gt I2.lt, I2.nofs (Nat.le_refl _), fun v q => by cases q⟩
      refine PySem.W.kxs_callWith (i := "ValueError.__init__") (x := a) (by rw [hee]; exact (Bool.false_or _).trans (hpl _)) ?_
      rw [hee]
      refine Calls.evalArgs_plain ?_
      have hrun := hA.run cp _ _ _ _ _ I4 hq
      rw [show starEach (e :: es) (ncx CX P w K mg base N ⟨name, qual, params, .Expr (.Call (.Attribute (.Call (.Name "super" p0) [] [] p1) "__init__" ap) (e :: es) [] cp) ep :: rest, scope, [("__class__", cc)], cda⟩ f A outer s H E).env = _ from hee _] at hrun
      refine thn hrun fun us4 s4 ⟨vs4, H4, I5, r4, hz, hH4, q4⟩ => ?_
      have hu5 := (I5.pin (h2.objs.size, PySem.W.kxs_mw "ValueError.__init__" a) (List.mem_append_right _ List.mem_cons_self)).1
      refine ⟨hu5, mw_call SC.oex I5 hH4 hu5 (by have q := Paired.length r4; have q2 := sizeLine_eq; show us4.length ≤ _; omega) fun s5 I6 => ?_⟩
      refine wpAt_of_wpAny (wpAny_mono (hR.run [] s5 _ H4 _ (I6.pins_of fun p hp => by cases hp) q4) (fun fl s' hs => ?_) fun e s' hs => hs)
      cases fl with
      | ret u =>
        obtain ⟨v, σ', H', J, rv, q⟩ := hs
        exact fin J rv q
      | next =>
        obtain ⟨σ', H', J, q⟩ := hs
        exact fin (v := V.non) (u := Value.none) J rfl q
      | brk =>
        obtain ⟨_, _, _, q⟩ := hs
        exact False.elim q
      | cont =>
        obtain ⟨_, _, _, q⟩ := hs
        exact False.elim q
end PV

namespace PV
open PySem PySem.Spec L2 NdefX PyProof.Rows

/-! ### own exception classes -/
/-- the promise of an own exception's __init__: n fields -/
def spI (C : Addr) (n : Nat) (fls : List Str) : Sp := fun vs H Q _ => ∃ (a : Addr) (ws : List V), vs = .ref a :: ws ∧ ws.length = n ∧ H a = some (exo a C none) ∧
  ∀ (d : Addr) (H2 : Hp), H d = none → d ≠ a → H2 a = some (exo a C (some d)) → H2 d = some (exd d (fls.zip ws).reverse) → (∀ b, b ≠ a → b ≠ d → H2 b = H b) → Q .non H2

section
variable {CX : CXT} {P : Program} {w : World} {K : PySem.W.Frag} {mg : Str → Option Value} {base : Heap} {k : Nat} {f : Addr} {name qual : Str} {params : Arguments} {scope : Scope} {kV doc pm ct oc : Value} {an od : Option Addr} {cda cc D C : Addr}
    {osl : Array (Option Value)}
theorem init1_ok {x f1 : Str} {p0 p1 ap cp ep px q0 q1 q2 q3 : Pos}
    (lk : K.lookup f = some ⟨oc, od, .func (PySem.W.fnX name qual params [.Expr (.Call (.Attribute (.Call (.Name "super" p0) [] [] p1) "__init__" ap) [.Name x px] [] cp) ep, .Assign [.Attribute (.Name "self" q0) f1 q1] (.Name x q2) q3] scope [("__class__", cc)] .none kV doc pm an (.ref cda) ct), osl⟩)
    (hcd : PySem.W.codeIn K (.ref cda) qual = true) (S : NScope ["self", x, "__class__"] ["self", x] ["__class__"] scope)
    (T : SupAt P K cc D cda) (hms : mg "super" = none) (hks : scope.names.lookup ("super" : Str) = some .globalImplicit) (hp : ((params.posonlyargs ++ params.args).head?.map (·.arg)) = some "self")
    (hi : interactive (PySem.W.envX qual scope 0 f (.ref cda) [("__class__", cc)]) = false) (hx1 : (x == ("__debug__" : Str)) = false) (hx2 : (x == ("__classdict__" : Str)) = false) (hx3 : scope.names.lookup x = some .local) (hs3 : scope.names.lookup ("self" : Str) = some .local)
    (hps : ∀ env : Env, ∃ pl : Sem Bool, eval (.Call (.Attribute (.Call (.Name "super" p0) [] [] p1) "__init__" ap) [.Name x px] [] cp) env = (do
      let ov ← attributeBase (.Call (.Name "super" p0) [] [] p1) "__init__" env (eval (.Call (.Name "super" p0) [] [] p1) env)
      standAt ap.atName
      let (f, first) ← holding [ov] (getMethod ov "__init__" pl)
      callWith cp f first (backTo cp (starEach [.Name x px] env)) []))
    (SC : SupC K C D) (hno : PySem.W.findIn K (.ref C) f1 = some none) :
    FnOk P w K mg base CX (k + 1) f (PySem.W.fnX name qual params [.Expr (.Call (.Attribute (.Call (.Name "super" p0) [] [] p1) "__init__" ap) [.Name x px] [] cp) ep, .Assign [.Attribute (.Name "self" q0) f1 q1] (.Name x q2) q3] scope [("__class__", cc)] .none kV doc pm an (.ref cda) ct) ["self", x] (spI C 1 [f1]) := by
  cases har : (params.posonlyargs ++ params.args).head? with
  | none => rw [har] at hp; cases hp
  | some ar =>
    rw [har] at hp
    have hself : ar.arg = "self" := Option.some.inj hp
    refine super_fn lk hcd S (fun vs H Q E ⟨a, ws, e, hl, _⟩ => by rw [e, List.length_cons, hl]; rfl) T hms hks har (by rw [hself]; rfl) (fun _ => rfl) (fun _ => rfl) hps (fun L => hi) (fun _ => rfl) fun A outer s H vs Q E hr hsp => ?_
    obtain ⟨a, ws, rfl, hl, ea, q⟩ := hsp
    obtain ⟨v, rfl⟩ : ∃ v, ws = [v] := by
      match ws, hl with
      | [v], _ => exact ⟨v, rfl⟩
    refine ⟨a, C, tCons (tVar 1) tNil, tOst K f1 (tVar 0) (tVar 1), rfl, ea, SC, pa_cons (pe_var (i := 1) rfl (.inl hx3) hx1 hx2) pa_nil rfl, pss_one (ps_ost (pe_var (i := 0) rfl (.inl hs3) (by decide) (by decide)) (pe_var (i := 1) rfl (.inl hx3) hx1 hx2)), ?_⟩
    refine ⟨v, rfl, by simp, ea, v, rfl, .ref a, rfl, a, C, rfl, SC.oex, hno, .inl ⟨ea, fun d hd hda => ?_⟩⟩
    refine q d _ hd hda upd_same (by rw [upd_ne hda, upd_same]; rfl) fun b h1 h2 => by rw [upd_ne h1, upd_ne h2]
theorem init2_ok {x y f1 f2 : Str} {p0 p1 ap cp ep px py q0 q1 q2 q3 r0 r1 r2 r3 : Pos}
    (lk : K.lookup f = some ⟨oc, od, .func (PySem.W.fnX name qual params [.Expr (.Call (.Attribute (.Call (.Name "super" p0) [] [] p1) "__init__" ap) [.Name x px, .Name y py] [] cp) ep, .Assign [.Attribute (.Name "self" q0) f1 q1] (.Name x q2) q3, .Assign [.Attribute (.Name "self" r0) f2 r1] (.Name y r2) r3] scope [("__class__", cc)] .none kV doc pm an (.ref cda) ct), osl⟩)
    (hcd : PySem.W.codeIn K (.ref cda) qual = true) (S : NScope ["self", x, y, "__class__"] ["self", x, y] ["__class__"] scope)
    (T : SupAt P K cc D cda) (hms : mg "super" = none) (hks : scope.names.lookup ("super" : Str) = some .globalImplicit) (hp : ((params.posonlyargs ++ params.args).head?.map (·.arg)) = some "self")
    (hi : interactive (PySem.W.envX qual scope 0 f (.ref cda) [("__class__", cc)]) = false) (hx1 : (x == ("__debug__" : Str)) = false) (hx2 : (x == ("__classdict__" : Str)) = false) (hx3 : scope.names.lookup x = some .local) (hs3 : scope.names.lookup ("self" : Str) = some .local)
    (hy1 : (y == ("__debug__" : Str)) = false) (hy2 : (y == ("__classdict__" : Str)) = false) (hy3 : scope.names.lookup y = some .local)
    (hps : ∀ env : Env, ∃ pl : Sem Bool, eval (.Call (.Attribute (.Call (.Name "super" p0) [] [] p1) "__init__" ap) [.Name x px, .Name y py] [] cp) env = (do
      let ov ← attributeBase (.Call (.Name "super" p0) [] [] p1) "__init__" env (eval (.Call (.Name "super" p0) [] [] p1) env)
      standAt ap.atName
      let (f, first) ← holding [ov] (getMethod ov "__init__" pl)
      callWith cp f first (backTo cp (starEach [.Name x px, .Name y py] env)) []))
    (SC : SupC K C D) (hno : PySem.W.findIn K (.ref C) f1 = some none) (hno2 : PySem.W.findIn K (.ref C) f2 = some none) :
    FnOk P w K mg base CX (k + 1) f (PySem.W.fnX name qual params [.Expr (.Call (.Attribute (.Call (.Name "super" p0) [] [] p1) "__init__" ap) [.Name x px, .Name y py] [] cp) ep, .Assign [.Attribute (.Name "self" q0) f1 q1] (.Name x q2) q3, .Assign [.Attribute (.Name "self" r0) f2 r1] (.Name y r2) r3] scope [("__class__", cc)] .none kV doc pm an (.ref cda) ct) ["self", x, y] (spI C 2 [f1, f2]) := by
  cases har : (params.posonlyargs ++ params.args).head? with
  | none => rw [har] at hp; cases hp
  | some ar =>
    rw [har] at hp
    have hself : ar.arg = "self" := Option.some.inj hp
    refine super_fn lk hcd S (fun vs H Q E ⟨a, ws, e, hl, _⟩ => by rw [e, List.length_cons, hl]; rfl) T hms hks har (by rw [hself]; rfl) (fun _ => rfl) (fun _ => rfl) hps (fun L => hi) (fun _ => rfl) fun A outer s H vs Q E hr hsp => ?_
    obtain ⟨a, ws, rfl, hl, ea, q⟩ := hsp
    obtain ⟨v, v2, rfl⟩ : ∃ v v2, ws = [v, v2] := by
      match ws, hl with
      | [v, v2], _ => exact ⟨v, v2, rfl⟩
    refine ⟨a, C, tCons (tVar 1) (tCons (tVar 2) tNil), tSeq (tOst K f1 (tVar 0) (tVar 1)) (tOst K f2 (tVar 0) (tVar 2)), rfl, ea, SC, pa_cons (pe_var (i := 1) rfl (.inl hx3) hx1 hx2) (pa_cons (pe_var (i := 2) rfl (.inl hy3) hy1 hy2) pa_nil rfl) rfl,
      pss_cons (ps_ost (pe_var (i := 0) rfl (.inl hs3) (by decide) (by decide)) (pe_var (i := 1) rfl (.inl hx3) hx1 hx2)) (pss_one (ps_ost (pe_var (i := 0) rfl (.inl hs3) (by decide) (by decide)) (pe_var (i := 2) rfl (.inl hy3) hy1 hy2))), ?_⟩
    refine ⟨v, rfl, v2, rfl, by simp, ea, v, rfl, .ref a, rfl, a, C, rfl, SC.oex, hno, .inl ⟨ea, fun d hd hda => ?_⟩⟩
    refine ⟨v2, rfl, .ref a, rfl, a, C, rfl, SC.oex, hno2, .inr ⟨d, [(f1, v)], upd_same, by rw [upd_ne hda, upd_same], by simp, ?_⟩⟩
    refine q d _ hd hda (by rw [upd_ne (Ne.symm hda), upd_same]) (by rw [upd_same]; rfl) fun b h1 h2 => by rw [upd_ne h2, upd_ne h1, upd_ne h2]
end
end PV

namespace PV
open PySem PySem.Spec L2 NdefX PyProof.Rows

/-! ### raise C(e, ..) -/
theorem gr_new {F H : Hp} {a : Addr} {u : HO} (l : Le F H) (h : H a = none) : Gr F H (L2.upd F a u) (L2.upd H a u) :=
  ⟨Le.new _ (l.gone h), l.upd _ _, fun b o e => by rw [upd_ne (ne_of_none e h)]; exact e, fun b e => by
    by_cases z : b = a
    · subst z; exact .inr h
    · rw [upd_ne z] at e; exact .inl e⟩
/-- what the walk knows of the class numbered C: its name x, its __init__ -/
structure ExK (P : Program) (w : World) (K : PySem.W.Frag) (mg : Str → Option Value) (base : Heap) (c : Ctx) (k C n : Nat) (x : Str) (ps : List Str) : Prop where
  oex : OexC K (c.cls C)
  ini : ∃ fI fd, PySem.W.findIn K (.ref (c.cls C)) "__init__" = some (some (.ref fI)) ∧ PySem.W.typeIn K (.ref fI) = some (.type "function") ∧ FnOk P w K mg base (L2.CX P w) k fI fd ps (spI (c.cls C) n (c.lay C)) ∧ Binds K fd ps []
  mg : mg x = some (.ref (c.cls C))
def raiseR (C n : Nat) (rs : List Rs) : M Fl := fun π => match vals rs with
  | some ps => if ps.length = n ∧ n ≤ 1000 then .exc C ps π else .bad
  | none => .bad
def raiseF (C n : Nat) (fa : M (List Rs)) : M Fl := fun π => (fa π).bind (raiseR C n)
theorem s_raise {X : Cx} {c : Ctx} {w : Ws} {k C n : Nat} {x : Str} {ps : List Str} {e : Expr} {es : List Expr} {p pos pos2 : Pos} {fa : M (List Rs)} (hc : X.calm = true) (tk : Takes X w.W) (E : ExK X.prog X.w X.K X.mg X.base c k C n x ps) (hr : Room (k + 1) X.A) (hg : Gl X x)
    (ha : PA X (e :: es) (tR c w fa)) (hdb : (x == ("__debug__" : Str)) = false := by decide) (he : starEach (e :: es) X.env = (false, eval e X.env) :: starEach es X.env := by rfl) (hpl : (backTo pos (starEach es X.env)).any (·.1) = false := by rfl) :
    PS X (.Raise (some (.Call (.Name x p) (e :: es) [] pos)) none pos2) (tS c w (raiseF C n fa)) := by
  obtain ⟨fI, fd, iC, tI, F1, hb⟩ := E.ini
  refine ps_weak (ps_raise hc tk (pmk_oex E.oex iC tI F1 hr hb .nil passL hg E.mg ha hdb he hpl)) fun D σ H ⟨F, π, gg, s, po⟩ => ?_
  refine ⟨F, π, gg, s, ?_⟩
  unfold raiseF at po
  cases e0 : fa π with
  | bad => rw [e0] at po; exact po
  | exc C' qs π1 => rw [e0] at po; exact fun F' H' d t s => po F' σ H' d t s
  | ok rs π1 =>
    rw [e0] at po
    intro F1 H1 t1 s1 vs hv
    simp only [Out.bind, raiseR] at po
    cases e1 : vals rs with
    | none => rw [e1] at po; exact po.elim
    | some qs =>
      rw [e1] at po
      by_cases hn : qs.length = n ∧ n ≤ 1000
      case neg => simp only [if_neg hn] at po; exact po.elim
      simp only [if_pos hn] at po
      have rv := vals_rps hv e1
      have hl := rps_len rv
      refine ⟨by omega, fun a ha => ⟨a, vs ++ [], rfl, by rw [List.append_nil]; omega, upd_same, fun d H2 hd hda e2 e3 e4 => ⟨rfl, d, _, e2, e3, by rw [upd_ne hda] at hd; exact hd, ?_⟩⟩⟩
      rw [upd_ne hda] at hd
      rw [List.append_nil] at e3 ⊢
      have eu : upd (del H2 a) d (.xd ((c.lay C).zip vs).reverse) = upd H1 d (.xd ((c.lay C).zip vs).reverse) := by
        funext b
        by_cases z : b = d
        · subst z; rw [upd_same, upd_same]
        · rw [upd_ne z, upd_ne z]
          by_cases y : b = a
          · subst y; rw [del_same, ha]
          · rw [del_ne y, e4 b y z, upd_ne y]
      rw [eu]
      have gr : Gr F1 H1 (upd F1 d (.xd ((c.lay C).zip vs).reverse)) (upd H1 d (.xd ((c.lay C).zip vs).reverse)) := gr_new s1.le hd
      exact po _ σ _ (some d) (t1.trans gr.tr) (gr.sr s1) (.inr ⟨d, vs, rfl, upd_same, Rps.mono gr.le _ _ rv⟩)

/-! ### try: .. except C as e: .. -/
/-- the guard within the suite: slot i holds the exception at a -/
def wx (c : Ctx) (w : Ws) (i : Nat) (a : Addr) (d : Option Addr) (C : Nat) (ps : List P) : Wi := ⟨fun _ _ _ _ => False, fun σ F => w.g F ∧ σ[i]? = some (some (.ref a)) ∧ XdOk c F C ps d, fun {σ} F F' l h => ⟨w.mono _ _ l h.1, h.2.1, by
  rcases h.2.2 with h | ⟨b, vs, e1, e2, e3⟩
  · exact .inl h
  · exact .inr ⟨b, vs, e1, l.xd e2, Rps.mono l _ _ e3⟩⟩⟩
/-- a suite's first statement -/
def tX (c : Ctx) (w' : Wi) (w : Ws) (f : M Fl) : TS := fun D σ H => ∃ F π, w'.g σ F ∧ w.g F ∧ SR c F π σ H ∧ PoS c (fun _ _ _ _ => False) F π σ H (f π) (flK c D π σ H)
def notL (π : En) (i : Nat) : Bool := match π[i]? with
  | none => false
  | some (.loan _) => false
  | some _ => true
def hndR (i : Nat) (o : Out Fl) : Out Fl := match o with
  | .ok fl π2 => if notL π2 i = true then .ok fl (π2.set i .no) else .bad
  | _ => .bad
def tryF (sb : Nat → Nat → Bool) (m i C : Nat) (fb : M Fl) (fh : Nat → List P → M Fl) : M Fl := fun π => match fb π with
  | .exc C' ps π1 => if C' < m then (if sb C' C = true then (if notL π1 i = true then hndR i (fh C' ps (π1.set i .no)) else .bad) else .exc C' ps π1) else .bad
  | o => o
theorem notL_at {π : En} {i : Nat} (h : notL π i = true) : i < π.length ∧ ∀ o, π[i]? ≠ some (.loan o) := by
  unfold notL at h
  cases q : π[i]? with
  | none => rw [q] at h; cases h
  | some sl =>
    refine ⟨(List.getElem?_eq_some_iff.mp q).1, fun o e => ?_⟩
    cases e
    rw [q] at h; cases h
theorem SR.noset {c : Ctx} {F H : Hp} {π : En} {σ : L2.St} {i : Nat} (s : SR c F π σ H) (h : notL π i = true) (x : Option V) : SR c F (π.set i .no) (σ.set i x) H ∧ ∀ F0 π0 σ0 H0, Tr F0 π0 σ0 H0 F π σ H → Tr F0 π0 σ0 H0 F (π.set i .no) (σ.set i x) H := by
  obtain ⟨h1, h2⟩ := notL_at h
  obtain ⟨s2, t2⟩ := s.set h1 h2 .no x (fun p e => by cases e) (fun o e => by cases e) (fun o e => by cases e)
  exact ⟨s2, fun F0 π0 σ0 H0 t => t2 _ _ _ _ t fun a e ⟨o, h⟩ => by cases h⟩
section
variable {X : Cx} {c : Ctx} {w : Ws} {x n : Str} {i C m : Nat} {body suite : List Stmt} {b₀ : Stmt} {np pos pos' : Pos} {sb : Nat → Nat → Bool} {fb : M Fl} {fh : Nat → List P → M Fl}
theorem s_tryAs (hs : X.stack = X.env :: X.outer) (hf : X.env.frame = some X.env.locals) (hN : X.N.Nodup) (hi : X.N[i]? = some n) (hln : X.env.kindOf n = some .local) (hcn : Names X x (.ref (c.cls C))) (tk : Takes X w.W)
    (hex : ∀ C', C' < m → PySem.W.exmOne X.K (.ref (c.cls C')) (.ref (c.cls C)) = some (sb C' C))
    (hb : ∀ (W : WX) (pn : List (Addr × Obj)) (xe : Value → Shared → Prop), Takes (X.tr pn xe) W → PassesOwn (model X.prog X.w) X.A X.env xe → PSs (X.tr pn xe) body (tS c ⟨W, w.g, w.mono⟩ fb))
    (hsu : ∀ (C' : Nat) (ps : List P) (a : Addr) (oe : Obj) (d : Option Addr) (pn : List (Addr × Obj)), C' < m → sb C' C = true → Zc (.ref (c.cls C')) d oe → (∃ vs, oe.data = .fields vs) → PSs (X.suite a ((a, oe) :: pn)) (b₀ :: suite) (tX c (wx c w i a d C' ps) w (fh C' ps))) :
    PS X (.Try body [.ExceptHandler (some (.Name x np)) (some n) (b₀ :: suite) pos'] [] [] pos) (tS c w (tryF sb m i C fb fh)) := by
  refine ps_weak (ps_try_as (i := i) (tb := fun W => tS c ⟨W, w.g, w.mono⟩ fb)
    (ts := fun a cls d D σ H => ∃ C' ps, C' < m ∧ sb C' C = true ∧ cls = .ref (c.cls C') ∧ tX c (wx c w i a d C' ps) w (fh C' ps) D σ H) (Wout := w.W) hs hf hN hi hln hcn tk hb fun a oe cls d pn hz hv => ⟨fun pins s σ H D I ⟨C', ps, h1, h2, h3, h4⟩ => ?_⟩) fun D σ H ⟨F, π, gg, s, po⟩ => ?_
  · subst h3
    exact (hsu C' ps a oe d pn h1 h2 hz hv).run pins s σ H D I h4
  · refine ⟨F, π, gg, s, ?_⟩
    unfold tryF at po
    cases e0 : fb π with
    | bad => rw [e0] at po; exact po
    | ok fl π1 => rw [e0] at po; exact po
    | exc C' ps π1 =>
      rw [e0] at po
      intro F' σ' H' d t s' xd
      by_cases hm : C' < m
      case neg => simp only [if_neg hm] at po; exact po.elim
      simp only [if_pos hm] at po
      refine ⟨sb C' C, hex C' hm, fun hb a ha => ⟨C', ps, hm, hb, rfl, ?_⟩, fun hb => ?_⟩
      · simp only [if_pos hb] at po
        by_cases hl : notL π1 i = true
        case neg => simp only [if_neg hl] at po; exact po.elim
        simp only [if_pos hl] at po
        obtain ⟨s1, t1⟩ := s'.noset hl (some (.ref a))
        have T1 := t1 _ _ _ _ t
        have hσ : i < σ'.length := by rw [← s'.len]; exact (notL_at hl).1
        refine ⟨F', π1.set i .no, ⟨w.mono _ _ t.le gg, by rw [List.getElem?_set_self hσ], xd⟩, w.mono _ _ t.le gg, s1, ?_⟩
        cases e2 : fh C' ps (π1.set i .no) with
        | bad => rw [e2] at po; exact po
        | exc C2 qs π2 => rw [e2] at po; exact po.elim
        | ok fl π2 =>
          rw [e2] at po
          unfold hndR at po
          by_cases hl2 : notL π2 i = true
          case neg => simp only [if_neg hl2] at po; exact po.elim
          simp only [if_pos hl2] at po
          intro F2 σ2 H2 t2 s2
          obtain ⟨s3, t3⟩ := s2.noset hl2 none
          have K := po F2 _ H2 (t3 _ _ _ _ (T1.trans t2)) s3
          cases fl with
          | nx => exact K
          | bk => exact K
          | ct => exact K
          | rt r =>
            intro v hv
            refine K v ?_
            cases r with
            | val p => exact hv
            | own o =>
              obtain ⟨a2, e1, h1, h2, h3, h4⟩ := hv
              refine ⟨a2, e1, h1, fun ⟨j, o', q1, q2⟩ => h2 ?_, h3, ?_⟩
              · by_cases z : j = i
                · subst z
                  rw [List.getElem?_set_self (notL_at hl2).1] at q1
                  cases q1
                · rw [List.getElem?_set_ne (Ne.symm z)] at q1 q2
                  exact ⟨j, o', q1, q2⟩
              · exact Fr0.back T1 h4
      · simp only [hb, Bool.false_eq_true, if_false] at po
        exact po F' σ' H' d t s' xd
end
/-! .. in the suite -/
/-- e.f -/
def xfF (ps : List P) (k : Nat) : M Rs := fun π => match ps[k]? with
  | some p => .ok (.val p) π
  | none => .bad
section
variable {X : Cx} {c : Ctx} {w : Ws} {a : Addr} {oe : Obj} {d : Option Addr} {pn : List (Addr × Obj)} {x n : Str} {i k C : Nat} {ps : List P} {pos pos2 : Pos}
theorem p_xf (T : XfC X.K (c.cls C)) (hno : PySem.W.findIn X.K (.ref (c.cls C)) n = some none) (hz : Zc (.ref (c.cls C)) d oe) (hf : ∃ vs, oe.data = .fields vs) (hN : X.N[i]? = some x) (hv : Vis X.env.scope x)
    (hlay : ∀ vs : List V, ps.length = vs.length → ((c.lay C).zip vs).reverse.lookup n = vs[k]?) (hne : c.lay C ≠ [])
    (hd : (x == ("__debug__" : Str)) = false := by decide) (hcd : (x == ("__classdict__" : Str)) = false := by decide)
    (hb : attributeBase (.Name x pos2) n X.env (eval (.Name x pos2) X.env) = eval (.Name x pos2) X.env := by rfl) :
    PE (X.suite a ((a, oe) :: pn)) (.Attribute (.Name x pos2) n pos) (tE c (wx c w i a d C ps) (xfF ps k)) :=
  pe_weak (pe_xf T hno hz hf (pe_var (X := X.suite a ((a, oe) :: pn)) (i := i) hN hv hd hcd) hb) fun σ H Q ⟨F, π, ⟨g0, g1, g2⟩, s, po⟩ => by
    unfold xfF at po
    refine ⟨.ref a, g1, rfl, rfl, ?_⟩
    rcases g2 with ⟨e, _⟩ | ⟨b, vs, e1, e2, e3⟩
    · exact absurd e hne
    · cases e4 : ps[k]? with
      | none => rw [e4] at po; exact po.elim
      | some p =>
        rw [e4] at po
        obtain ⟨v, e5, r⟩ := rps_get e3 e4
        exact ⟨b, _, v, e1, s.le.xd e2, by rw [hlay vs (rps_len e3)]; exact e5, po F H .refl s v r⟩
end
/-! first statements of a suite -/
section
variable {X : Cx} {c : Ctx} {w' : Wi} {w : Ws} {st : Stmt} {rest body orelse : List Stmt} {e cnd : Expr} {pos pos' : Pos} {f g : M Fl} {fe : M Rs} {ft : M Bool}
theorem x_cons (h1 : PS X st (tX c w' w f)) (h2 : PSs X rest (tS c w.blk g)) : PSs X (st :: rest) (tX c w' w (seqF f g)) := pss_weak (pss_cons h1 h2) fun D σ H ⟨F, π, gx, gg, s, po⟩ => by
  refine ⟨F, π, gx, gg, s, (PoS.splitS po).mono fun fl π1 F1 σ1 H1 t s1 p1 => ?_⟩
  cases fl with
  | nx => exact ⟨F1, π1, w.mono _ _ t.le gg, s1, p1.mono fun fl π2 F2 σ2 H2 t2 s2 k => k.base t⟩
  | bk => exact p1 F1 σ1 H1 .refl s1
  | ct => exact p1 F1 σ1 H1 .refl s1
  | rt r => exact p1 F1 σ1 H1 .refl s1
theorem x_one (h1 : PS X st (tX c w' w f)) : PSs X [st] (tX c w' w f) := pss_weak (pss_one h1) fun D σ H h => h
/-- a statement that does not look at the exception -/
theorem x_any (h1 : PS X st (tS c w.blk f)) : PS X st (tX c w' w f) := ps_weak h1 fun D σ H ⟨F, π, gx, gg, s, po⟩ => ⟨F, π, gg, s, po⟩
theorem x_if (hW : w'.W = fun _ _ _ _ => False) (hc : PT X cnd (tT c w' ft)) (ha : PSs X body (tS c w.blk f)) (hb : PSs X orelse (tS c w.blk g)) : PS X (.If cnd body orelse pos) (tX c w' w (ifF ft f g)) :=
  ps_weak (ps_if hc ha hb) fun D σ H ⟨F, π, gx, gg, s, po⟩ => by
    refine ⟨F, π, gx, s, ?_⟩
    rw [hW]
    refine (PoS.split po).mono fun b π1 F1 H1 t s1 p1 => ?_
    cases b with
    | true => exact ⟨F1, π1, w.mono _ _ t.le gg, s1, PoS.mono p1 fun fl π2 F2 σ2 H2 t2 s2 k => k.base t⟩
    | false => exact ⟨F1, π1, w.mono _ _ t.le gg, s1, PoS.mono p1 fun fl π2 F2 σ2 H2 t2 s2 k => k.base t⟩
theorem x_ret (hW : w'.W = fun _ _ _ _ => False) (he : PE X e (tE c w' fe)) : PS X (.Return (some e) pos) (tX c w' w (retF fe)) := ps_weak (ps_ret he) fun D σ H ⟨F, π, gx, gg, s, po⟩ => by
  refine ⟨F, π, gx, s, ?_⟩
  rw [hW]
  unfold retF at po
  cases e0 : fe π with
  | bad => rw [e0] at po; exact po
  | exc C ps π1 => rw [e0] at po; exact fun F' H' d t s => po F' σ H' d t s
  | ok r π1 =>
    rw [e0] at po
    intro F1 H1 t s1 v hr
    cases r with
    | val p => exact po F1 σ H1 t s1 v hr
    | own o =>
      obtain ⟨a, e1, h1, h2, h3, h4⟩ := hr
      exact po F1 σ H1 t s1 v ⟨a, e1, h1, fun z => h2 z.own, h3, h4⟩
    | bor i =>
      have hr' : σ[i]? = some (some v) := hr
      simp only [Out.bind, retR] at po
      cases q : π1[i]? with
      | none => rw [q] at po; exact po.elim
      | some sl =>
        rw [q] at po
        cases sl with
        | no => exact po.elim
        | loan o => exact po.elim
        | val p =>
          obtain ⟨v', e1, h1⟩ := s1.vl i p q
          rw [hr'] at e1
          have e3 : v = v' := Option.some.inj (Option.some.inj e1)
          subst e3
          exact po F1 σ H1 t s1 v h1
        | own o =>
          obtain ⟨a, e1, h1, h2⟩ := s1.ow i _ o q rfl
          rw [hr'] at e1
          have e3 : v = .ref a := Option.some.inj (Option.some.inj e1)
          subst e3
          exact po F1 σ H1 t s1 _ ⟨a, rfl, h1, lent_own s1 q hr', h2, Fr0.back t (.inr ⟨i, _, o, q, rfl, hr'⟩)⟩
end
end PV

namespace PV
open PySem PySem.Spec L2 PyProof.Rows

/-! ### defs that are called where no text is under way -/
structure FnG (P : Program) (w : World) (K : PySem.W.Frag) (mg : Str → Option Value) (base : Heap) (k : Nat) (f : Addr) (fd : FuncData) (ps : List Str) (sp : Sp) : Prop where
  len : ∀ vs H Q E, sp vs H Q E → vs.length = ps.length
  run : ∀ (A : Around) (outer : List Env) (s : Shared) (H : Hp) (args : Args) (us : List Value) (vs : List V) (Q : VK) (E : XK), A.guards = some [] → Room k A → Env0 P w K mg base A outer s H → BindsTo s fd args (ps.zip us) → Vals vs us → sp vs H Q E →
    codeAny (model P w) A (.call (.ref f) args) (CR (L2.CX P w) outer P w H s Q E) s
theorem FnG.mono {P : Program} {w : World} {K : PySem.W.Frag} {mg : Str → Option Value} {base : Heap} {j k : Nat} {f : Addr} {fd : FuncData} {ps : List Str} {sp : Sp} (F : FnG P w K mg base j f fd ps sp) (h : j ≤ k) : FnG P w K mg base k f fd ps sp :=
  ⟨F.len, fun A outer s H args us vs Q E hg hr => F.run A outer s H args us vs Q E hg (hr.mono h)⟩
section
variable {P : Program} {w : World} {K : PySem.W.Frag} {mg : Str → Option Value} {base : Heap} {c : Ctx}
/-- a def by its body -/
theorem fnG_of {x qual : Str} {st : Stmt} {f : Addr} {fd : FuncData} {N ps : List Str} {k : Nat} {sp : Sp} (F : Fun K x qual st f fd) (S : FnScope N ps (defScope st)) (len : ∀ vs H Q E, sp vs H Q E → vs.length = ps.length)
    (hbody : ∀ (cdv : Value) (A : Around) (outer : List Env) (s : Shared) (H : Hp) (vs : List V) (Q : VK) (E : XK), A.guards = some [] → Room k (A.deeper (envOfC qual (defScope st) s.heap.objs.size f cdv)) → sp vs H Q E →
      ∃ t, PSs (cxOf (L2.CX P w) P w K mg base N qual (defScope st) f cdv A outer s H E) (defBody st) t ∧ t { nx := fun _ H' => Q .non H', rt := Q } (start N vs) H) : FnG P w K mg base (k + 1) f fd ps sp := by
  obtain ⟨oc, od, kV, doc, pm, an, cdv, ct, osl, rfl, lk, hcd⟩ := F.ex
  refine ⟨len, fun A outer s H args us vs Q E hg hr e0 hb r hsp => ?_⟩
  have inS : ∀ {b : Addr} {o : Obj}, base.get? b = some o → s.heap.get? b = some o := fun {b o} e => (e0.bs b o e).1
  have KX : K.In s.heap := e0.mod.kin.keeps fun b o e => inS e
  have hkind : ∀ y ∈ ps.zip us, (defScope st).names.lookup y.1 = some .local ∨ ((defScope st).names.lookup y.1 = some .cell ∧ ((cellsFrom (s.heap.objs.size + 1) (defScope st).names []).lookup y.1).isSome = true) := fun y hy => by
    rcases S.par y.1 (List.of_mem_zip (show (y.1, y.2) ∈ _ from hy)).1 with q | q
    · exact .inl q
    · exact .inr ⟨q, PySem.W.cellsFrom_some _ _ _ (.inl q)⟩
  refine codeAny_call_function hr.depth (KX _ _ lk) rfl S.co S.gen rfl (PySem.W.codeRec_of KX hcd) (hb _ _ _ _ (wpAny_newFunctionEnv_cells S.kind hkind fun env he s1 x => ?_))
  subst he
  refine ⟨(e0.mod.nolimit.keeps fun b o e => inS e).keeps x.toInCall.keep, codeAny_func ?_⟩
  obtain ⟨t, ht, hq⟩ := hbody cdv A outer s H vs Q E hg (hr.deeper _) hsp
  refine wpAny_mono (ht.run [] s1 (start N vs) H _ (inv_start S hr.hd e0 (len _ _ _ _ hsp) r x) hq) (fun fl s' hs => ?_) fun e s' hs => hs
  cases fl with
  | ret u =>
    obtain ⟨v, σ', H', J, rv, q⟩ := hs
    exact ⟨v, H', J.os, J.bare, J.base, J.hok, rv, q⟩
  | next =>
    obtain ⟨σ', H', J, q⟩ := hs
    exact ⟨.non, H', J.os, J.bare, J.base, J.hok, rfl, q⟩
  | brk => obtain ⟨_, _, _, q⟩ := hs; exact q.elim
  | cont => obtain ⟨_, _, _, q⟩ := hs; exact q.elim
theorem fn_okG {x qual : Str} {st : Stmt} {f : Addr} {fd : FuncData} {N ps : List Str} {k : Nat} {body : M Fl} (Fd : Fun K x qual st f fd) (S : FnScope N ps (defScope st))
    (hb : ∀ (cdv : Value) (A : Around) (outer : List Env) (s : Shared) (H : Hp) (E : XK), A.guards = some [] → Room k (A.deeper (envOfC qual (defScope st) s.heap.objs.size f cdv)) →
      PSs (cxOf (L2.CX P w) P w K mg base N qual (defScope st) f cdv A outer s H E) (defBody st) (tS c (wE E) body)) :
    FnG P w K mg base (k + 1) f fd ps (spF c ps.length (fnF (N.length - ps.length) body)) := by
  refine fnG_of Fd S (fun vs H Q E h => ?_) (fun cdv A outer s H vs Q E hg hr h => ⟨_, hb cdv A outer s H E hg hr, ?_⟩)
  · obtain ⟨F, πs, hl, _, sr, _⟩ := h
    have := sr.len
    simp at this
    omega
  · obtain ⟨F, πs, hl, hno, sr, po⟩ := h
    have hvl : vs.length = ps.length := by
      have := sr.len
      simp at this
      omega
    have hst : L2.start N vs = vs.map some ++ List.replicate (N.length - ps.length) none := by unfold L2.start; rw [hvl]
    rw [hst]
    refine ⟨F, πs ++ List.replicate (N.length - ps.length) .no, trivial, sr.ext _, ?_⟩
    unfold fnF at po
    cases e : body (πs ++ List.replicate (N.length - ps.length) .no) with
    | bad => rw [e] at po; exact po
    | exc C qs π' =>
      rw [e] at po
      intro F' σ' H' d t s' xd
      obtain ⟨h1, h2, _⟩ := back_ok hno sr t s'
      exact po F' H' d h1 h2 xd
    | ok fl π' =>
      rw [e] at po
      cases fl with
      | bk => exact po.elim
      | ct => exact po.elim
      | nx =>
        intro F' σ' H' t s'
        obtain ⟨h1, h2, _⟩ := back_ok hno sr t s'
        exact po .non F' H' h1 h2 (show Rp c F' .non .non from mk_non)
      | rt r =>
        intro F' σ' H' t s' v hr'
        obtain ⟨h1, h2, h3⟩ := back_ok hno sr t s'
        refine po v F' H' h1 h2 ?_
        cases r with
        | val p => exact hr'
        | own o =>
          obtain ⟨a, e1, q1, q2, q3, q4⟩ := hr'
          exact ⟨a, e1, q1, fun z => q2 (h3 a z), q3, q4.imp id own_ext.mp⟩
/-- no Fn from a run that only the promise of another def needs: a def's run needs no more than it says -/
theorem FnG.of {k : Nat} {f : Addr} {fd : FuncData} {ps : List Str} {sp : Sp} (F : FnOk P w K mg base (L2.CX P w) k f fd ps sp) : FnG P w K mg base k f fd ps sp :=
  ⟨F.len, fun A outer s H args us vs Q E _ => F.run A outer s H args us vs Q E⟩
end
section
variable {X : Cx} {c : Ctx} {w : Wi} {k n : Nat} {f : Addr} {fd : FuncData} {ps : List Str} {Fn : FN} {x m : Str} {p pos apos : Pos} {e o : Expr} {es : List Expr} {fa : M (List Rs)} {sp : Sp} {E : L2.St → XK} {t : TA}
theorem run_fnG {pins : List (Addr × Obj)} {σ : L2.St} {H : Hp} {s : Shared} {Q : VK} {us : List Value} {vs : List V} (G : FnG X.prog X.w X.K X.mg X.base k f fd ps sp) (hg : X.A.guards = some []) (hr : Room k X.A) (hb : Binds X.K fd ps []) (hx : PassesAt (L2.CX X.prog X.w) X σ (E σ))
    (I : L2.Inv X pins σ H s) (r : Vals vs us) (h : sp vs H Q (E σ)) : wpAny (model X.prog X.w) X.A (call (.ref f) us) (L2.EP X pins σ Q) X.xe s := by
  have b := hb s us I.kIn (by rw [List.append_nil, ← r.length]; exact G.len _ _ _ _ h)
  rw [List.append_nil] at b
  refine wpAny_call (codeAny_mono (G.run X.A X.stack s H ⟨us, []⟩ us vs Q (E σ) hg hr I.env0 b r h) fun r s' hq => ?_)
  cases r with
  | error e => exact hx pins H s e s' I hq
  | ok fl => cases fl <;> first | exact I.after hq | exact False.elim hq
theorem pe_callG (G : FnG X.prog X.w X.K X.mg X.base k f fd ps sp) (hgd : X.A.guards = some []) (hr : Room k X.A) (hg : Gl X x) (hm : X.mg x = some (.ref f)) (hk : PySem.W.keepIn X.K (.ref f) = true) (hb : Binds X.K fd ps []) (hx : ∀ σ, PassesAt (L2.CX X.prog X.w) X σ (E σ))
    (ha : PA X (e :: es) t) (hdb : (x == ("__debug__" : Str)) = false := by decide) (he : starEach (e :: es) X.env = (false, eval e X.env) :: starEach es X.env := by rfl) (hpl : (backTo pos (starEach es X.env)).any (·.1) = false := by rfl) :
    PE X (.Call (.Name x p) (e :: es) [] pos) (tCallS sp E t) :=
  ⟨fun pins s σ H Q I h => wpAny_Call_Name_kw (ld_glob I hg hm (PySem.W.callWith_K (h₀ := X.base) I.ok.mod.kin hk (thn (ha.run pos pins s σ H _ I h) fun us s1 ⟨vs, H1, I1, r, q⟩ => ⟨I1.kIn, run_fnG G hgd hr hb (hx σ) I1 r q⟩) he hpl) hdb)⟩
/-- f(e, ..) -/
theorem p_callG (G : FnG X.prog X.w X.K X.mg X.base k f fd ps (spF c n Fn)) (hgd : X.A.guards = some []) (hr : Room k X.A) (hg : Gl X x) (hm : X.mg x = some (.ref f)) (hk : PySem.W.keepIn X.K (.ref f) = true) (hb : Binds X.K fd ps []) (tk : Takes X w.W)
    (ha : PA X (e :: es) (tR c w fa)) (hlen : ∀ π rs π', fa π = .ok rs π' → rs.length = n) (hdb : (x == ("__debug__" : Str)) = false := by decide) (he : starEach (e :: es) X.env = (false, eval e X.env) :: starEach es X.env := by rfl) (hpl : (backTo pos (starEach es X.env)).any (·.1) = false := by rfl) :
    PE X (.Call (.Name x p) (e :: es) [] pos) (tE c w (callF Fn fa)) :=
  pe_weak (pe_callG G hgd hr hg hm hk hb (fun σ => passAt tk σ) ha hdb he hpl) fun σ H Q ⟨F, π, gg, s, po⟩ => by
    refine ⟨F, π, gg, s, ?_⟩
    unfold callF at po
    cases e0 : fa π with
    | bad => rw [e0] at po; exact po
    | exc C qs π1 => rw [e0] at po; exact po
    | ok rs π1 =>
      rw [e0] at po
      intro F1 H1 t s1 vs hx
      refine call_post s1 hx (hlen _ _ _ e0) (Po.from po t) fun r π2 F2 H2 v t2 kk hr2 => kk v (hr2.base t)
theorem len_nil : ∀ π rs π', nilF π = .ok rs π' → rs.length = 0 := fun π rs π' h => by cases h; rfl
theorem len_cons {f : M Rs} {g : M (List Rs)} {n : Nat} (h : ∀ π rs π', g π = .ok rs π' → rs.length = n) : ∀ π rs π', consF f g π = .ok rs π' → rs.length = n + 1 := fun π rs π' e => by
  unfold consF at e
  cases e0 : f π with
  | bad => rw [e0] at e; cases e
  | exc C qs π1 => rw [e0] at e; cases e
  | ok r π1 =>
    rw [e0] at e
    simp only [Out.bind] at e
    cases e1 : g π1 with
    | bad => rw [e1] at e; cases e
    | exc C qs π1 => rw [e1] at e; cases e
    | ok rs2 π2 =>
      rw [e1] at e
      cases e
      rw [List.length_cons, h _ _ _ e1]
end

/-! ### repr -/
def rReprD (K : PySem.W.Frag) : List V → Hp → VK → Prop := fun xs H Q => ∃ (v : V) (d : PyData), xs = [v] ∧ Dp K H v d ∧ d.showable = true ∧ d.hasDict = false ∧ d.depth ≤ 60 ∧ d.shown.length ≤ sizeLine ∧ Q (.str d.shown) H
theorem call_reprD {X : Cx} (hgd : X.A.guards = some []) (hu : X.A.units + 65 < cLine) : CallR X (.builtin "repr") (rReprD X.K) := by
  intro pins s σ H xs us Q I r h
  obtain ⟨v, d, rfl, D, hs, hn, hd, hz, q⟩ := h
  obtain ⟨u, rfl, r1⟩ := vals1 r
  obtain ⟨as, R⟩ := D.reads I _ _ _ r1
  have give : ∀ h' u tk, (∀ b o, s.heap.get? b = some o → h'.get? b = some o) → L2.EP X pins σ Q (.str d.shown u) { s with heap := h', toks := tk } := fun h' u tk k => ⟨.str d.shown, H, I.kept (t' := tk) k, ⟨_, rfl⟩, q⟩
  have keep0 : ∀ b o, s.heap.get? b = some o → s.heap.get? b = some o := fun _ _ e => e
  cases D with
  | non =>
    cases r1
    exact PySem.P.repr_of_none (by have := give s.heap s.toks (s.toks + 1) keep0; rw [PyData.shown_none] at this; exact this)
  | bl b =>
    cases r1
    exact PySem.P.repr_of_bool (by have := give s.heap s.toks (s.toks + 1) keep0; simpa only [PyData.shown] using this)
  | int i =>
    obtain ⟨t, rfl⟩ := r1
    exact PySem.P.repr_of_int (by simpa [PyData.showable] using hs) (by have := give s.heap s.toks (s.toks + 1) keep0; simpa only [PyData.shown] using this)
  | str x =>
    obtain ⟨t, rfl⟩ := r1
    exact PySem.P.repr_of_str (by have := give s.heap s.toks (s.toks + 1) keep0; simpa only [PyData.shown] using this) (by simpa only [PyData.shown] using hz)
  | lst h1 h2 =>
    cases r1
    exact repr_of_reads' R hs (PyData.noDict_hsm hn) hgd (by omega) keep0 give hz
  | tup h1 h2 =>
    cases r1
    exact repr_of_reads' R hs (PyData.noDict_hsm hn) hgd (by omega) keep0 give hz
/-- small data: ints small, texts short, few parts -/
def shw : Nat → P → Bool
  | _, .non => true
  | _, .bl _ => true
  | _, .int i => decide (i.natAbs < 2 ^ 64)
  | _, .str x => decide ((reprText x).length ≤ 1000)
  | n + 1, .tup xs => decide (xs.length ≤ 20) && xs.all (shw n)
  | n + 1, .lst xs => decide (xs.length ≤ 20) && xs.all (shw n)
  | _, _ => false
end PV

namespace PV
open PySem PySem.Spec L2 PyProof.Rows

/-! ### repr, as an operation -/
def reprP : List P → Option Rv
  | [p] => if dat 60 p = true ∧ (toD p).showable = true ∧ (toD p).hasDict = false ∧ (toD p).shown.length ≤ 1000000 then some (.val (.str (toD p).shown)) else none
  | _ => none
theorem v_repr {c : Ctx} : CalV c (rReprD c.K) reprP := by
  intro F H ps xs res Q l h e k
  have hs := sizeLine_eq
  unfold reprP at e
  split at e
  · rename_i p
    split at e
    · rename_i hc
      cases e
      obtain ⟨v, t, rfl, h1, h2⟩ := h
      have ht : t = [] := h2
      subst ht
      exact ⟨v, toD p, rfl, dp_of 60 p v hc.1 (h1.rpH l), hc.2.1, hc.2.2.1, (dat_lay 60 p hc.1).2, by omega, give l k mk_str⟩
    · cases e
  · cases e

/-! ### the law's own head -/
section
open PySem.W
variable {P : Program} {w : World} {K : Frag} {mg mb : Str → Option Value} {k : Nat} {fa a : Addr} {fd : FuncData} {x : Str} {sp : Sp} {s₁ : Shared} {vs : List Value} {ns : List Int}
/-- from a heap H of which no more is tracked than the script -/
theorem lawG_at {H : Hp} (KX : K.In s₁.heap) (hns : s₁.heap.Ns mainGlobals mg) (hb : s₁.heap.Ns builtinsNs mb) (hbb : ∀ x : Str, x ≠ "__name__" → mb x = bootBuiltins x) (hlim : s₁.heap.NoLimit) (hg : s₁.gens = #[])
    (ha : s₁.heap.get? a = some { cls := .type "list", data := .seq vs.toArray }) (hr : Room k callerA)
    (hF : ∀ base : Heap, K.In base → base.Ns mainGlobals mg → FnG P w K mg base k fa fd [x] sp) (hbind : ∀ (s : Shared) (u : Value), BindsTo s fd ⟨[u], []⟩ [(x, u)])
    (hO : Only H) (hok : HOk P w H s₁.heap) (hA : ∀ b, H b ≠ none → b = a) (hK : H a ≠ none → K.lookup a = none) (hsp : sp [.ref a] H (fun v _ => v = .bl true) fun _ _ _ => False) :
    codeAny (model P w) callerA (.call (.ref fa) ⟨[.ref a], []⟩) (fun r s' => r = .ok (.ret (.bool true)) ∧ OldK s₁.heap s'.heap ∧ s'.os = s₁.os ∧ AllBare s'.gens) s₁ := by
  have un : ∀ {b : Addr} {o : Obj}, s₁.heap.get? b = some o → (b = a → o ≠ { cls := .type "list", data := .seq vs.toArray } ∨ H a = none) → H b = none := fun {b o} e hne => by
    cases q : H b with
    | none => rfl
    | some u =>
      obtain rfl := hA b (by rw [q]; exact fun z => nomatch z)
      rcases hne rfl with z | z
      · rw [ha] at e
        exact absurd (Option.some.inj e).symm z
      · rw [q] at z; cases z
  have nsK : ∀ {b : Addr} {m : Str → Option Value}, s₁.heap.Ns b m → (hidT s₁.heap H).Ns b m := fun {b m} ⟨o, es, ep, e, d, r⟩ => ⟨o, es, ep, hidT_get e (un e fun _ => .inl fun z => by subst z; cases d), d, r⟩
  have kb : K.In (hidT s₁.heap H) := fun b o e => hidT_get (KX b o e) (un (KX b o e) fun hba => by
    subst hba
    cases q : H b with
    | none => exact .inr rfl
    | some u => rw [hK (by rw [q]; exact fun z => nomatch z)] at e; cases e)
  have hM : Mod K mg (hidT s₁.heap H) := ⟨kb, nsK hns, ⟨mb, nsK hb, hbb⟩, let ⟨mc, h1, h2⟩ := hlim; ⟨mc, nsK h1, h2⟩⟩
  have e0 : Env0 P w K mg (hidT s₁.heap H) callerA [] s₁ H :=
    ⟨rfl, hM, fun b o e => of_hidT e, Nat.le_of_eq (hidT_size _ _), trivial, (fun b z => absurd (show b ∈ ([] : List Addr) from z) (by simp)), hok, .of_eq hg⟩
  refine codeAny_mono ((hF _ kb (nsK hns)).run callerA [] s₁ H ⟨[.ref a], []⟩ [.ref a] [.ref a] _ _ rfl hr e0 (hbind s₁ (.ref a)) (.cons rfl .nil) hsp) fun r s' h => ?_
  cases r with
  | error e =>
    obtain ⟨_, _, _, _, _, _, _, _, _, _, _, _, z⟩ := h
    exact z.elim
  | ok fl =>
    cases fl with
    | next => exact False.elim h
    | brk => exact False.elim h
    | cont => exact False.elim h
    | ret u =>
      obtain ⟨v, H', os, bare, un', hok', r', q⟩ := h
      have q' : v = .bl true := q
      subst q'
      obtain rfl : u = Value.bool true := r'
      refine ⟨rfl, OldK.of_keep fun b o e => ?_, os, bare⟩
      rcases hO b with z | ⟨ob, xs, z⟩
      · exact un'.keep b o e z (fun y => absurd (show b ∈ ([] : List Addr) from y) (by simp)) (by simp)
      · obtain ⟨e1, _⟩ := hok b _ z
        obtain ⟨e2, _⟩ := hok' b _ (un'.frzs b ob _ z)
        rw [e] at e1
        cases e1
        exact e2
theorem lawG (KX : K.In s₁.heap) (hns : s₁.heap.Ns mainGlobals mg) (hb : s₁.heap.Ns builtinsNs mb) (hbb : ∀ x : Str, x ≠ "__name__" → mb x = bootBuiltins x) (hlim : s₁.heap.NoLimit) (hg : s₁.gens = #[])
    (ha : s₁.heap.get? a = some { cls := .type "list", data := .seq vs.toArray }) (hi : IntsAre vs ns) (hl : ns.length ≤ sizeLine) (hr : Room k callerA)
    (hF : ∀ base : Heap, K.In base → base.Ns mainGlobals mg → FnG P w K mg base k fa fd [x] sp) (hbind : ∀ (s : Shared) (u : Value), BindsTo s fd ⟨[u], []⟩ [(x, u)])
    (hsp : ∀ H : Hp, Only H → SqL K H a (ns.map V.int) → sp [.ref a] H (fun v _ => v = .bl true) fun _ _ _ => False) :
    codeAny (model P w) callerA (.call (.ref fa) ⟨[.ref a], []⟩) (fun r s' => r = .ok (.ret (.bool true)) ∧ OldK s₁.heap s'.heap ∧ s'.os = s₁.os ∧ AllBare s'.gens) s₁ := by
  have rv := vals_ints hi
  have lenV := hi.length
  cases hk : K.lookup a with
  | some o =>
    have e := KX a o hk
    rw [ha] at e
    cases e
    refine lawG_at (H := fun _ => none) KX hns hb hbb hlim hg ha hr hF hbind (fun _ => .inl rfl) (fun b u z => by cases (show (none : Option HO) = some u from z)) (fun b z => absurd rfl z) (fun z => absurd rfl z) (hsp _ (fun _ => .inl rfl) ?_)
    exact .inr ⟨_, vs.toArray, _, hk, rfl, rfl, rfl, by rw [List.size_toArray, lenV]; exact hl, by simpa using rv⟩
  | none =>
    have hO : Only (fun b => if b = a then some (.frz { cls := .type "list", data := .seq vs.toArray } (.lst (ns.map V.int))) else none) := fun b => by
      by_cases z : b = a
      · exact .inr ⟨_, _, if_pos z⟩
      · exact .inl (if_neg z)
    refine lawG_at KX hns hb hbb hlim hg ha hr hF hbind hO (fun b u z => ?_) (fun b z => ?_) (fun _ => hk) (hsp _ hO (.inl (.inr ⟨{ cls := .type "list", data := .seq vs.toArray }, if_pos rfl⟩)))
    · by_cases y : b = a
      · have z' := (if_pos y).symm.trans z
        cases z'
        subst y
        exact ⟨ha, by rw [List.length_map]; exact hl, vs, _, rv, ha⟩
      · have z' := (if_neg y).symm.trans z
        cases z'
    · by_cases y : b = a
      · exact y
      · exact absurd (if_neg y) z
theorem walk_ofG {l : OpenLaw} {n : Nat} {q : Program} {loose : List Str} {XP : (Str → Option Value) → Heap → Prop} {YP : World → Heap → Prop} {d : DefRec} {K : Params → Frag} {sp : World → Sp}
    (hn : l.most = some n) (hn2 : n ≤ sizeLine) (hdf : d.params.defaults = []) (hr : Room k callerA) (hY : ∀ (w : World) (h : Heap), YP w h → (K w.params).In h)
    (F : ∀ (w : World) (mg : Str → Option Value) (fa : Addr) (h : Heap), (K w.params).In h → h.Ns mainGlobals mg → mg d.name = some (.ref fa) →
      ∃ fd : FuncData, (∀ (s : Shared) (u : Value), BindsTo s fd ⟨[u], []⟩ [(x, u)]) ∧ ∀ base : Heap, (K w.params).In base → base.Ns mainGlobals mg → FnG l.prog w (K w.params) mg base k fa fd [x] (sp w))
    (hsp : ∀ (w : World) (H : Hp) (a : Addr) (ns : List Int), ns.length ≤ n → Only H → SqL (K w.params) H a (ns.map V.int) → sp w [.ref a] H (fun v _ => v = .bl true) fun _ _ _ => False) :
    WalkO q loose XP YP l.row.toRowW d [] (fun f vs => PySem.call f vs) := by
  refine Att.attach_call hn hdf fun w s₀ s₁ mg mb fa o pm cd doc a vs ns G Y ho hd hcd hmg hobj hints hlen hg => ?_
  obtain ⟨fd, hb, hF⟩ := F w mg fa _ (hY w _ Y) G.T.g hmg
  exact lawG (hY w _ Y) G.T.g G.T.b G.T.builtins G.T.nolimit hg hobj hints (Nat.le_trans hlen hn2) hr hF hb fun H hO hS => hsp w H a ns hlen hO hS
end
end PV

namespace PV
open PySem L2 PyProof.Rows

/-! ### a comprehension over a slot's own list -/
open Classical in
/-- no exception may leave it; the list stays as it is -/
noncomputable def lcLoopO (i : Nat) (ps0 : List P) (t : TgF) (tt : M Bool) (fe : M P) (vs : List Nat) (π0 : En) : List P → List P → En → Out Rs
  | [], acc, π => if getL π i = some ps0 then .ok (.own (.lst acc)) (restE π0 π vs) else .bad
  | p :: ps, acc, π => if getL π i = some ps0 then (match t p π with
    | none => .bad
    | some π1 => match tt π1 with
      | .ok false π2 => if chk vs π2 = true then lcLoopO i ps0 t tt fe vs π0 ps acc (wipeE π2 vs) else .bad
      | .ok true π2 => (match fe π2 with
        | .ok q π3 => if chk vs π3 = true then lcLoopO i ps0 t tt fe vs π0 ps (acc ++ [q]) (wipeE π3 vs) else .bad
        | _ => .bad)
      | _ => .bad) else .bad
noncomputable def lcOF (i : Nat) (t : TgF) (tt : M Bool) (fe : M P) (vs : List Nat) : M Rs := fun π => match getL π i with
  | some ps => if chk vs π = true ∧ i ∉ vs then lcLoopO i ps t tt fe vs π ps [] (wipeE π vs) else .bad
  | none => .bad
def LcInvO (c : Ctx) (w : Ws) (i0 : Nat) (ps0 : List P) (t : TgF) (tt : M Bool) (fe : M P) (vs : List Nat) (F1 : Hp) (π1 : En) (σ : L2.St) (H1 : Hp) (ps : List P) (K : Rs → En → Hp → Hp → Prop) (D : Addr) (i : Nat) (H' : Hp) : Prop :=
  ∃ F' π' acc va, Le F1 F' ∧ w.g F' ∧ SR c F' π' (wipe σ vs) H' ∧ H' D = some (.lst va) ∧ Rps c F' acc va ∧ acc.length ≤ i ∧ F' D = none ∧ ¬ Own π' (wipe σ vs) D ∧ Tr F1 (wipeE π1 vs) (wipe σ vs) H1 F' π' (wipe σ vs) H' ∧
    Po c w.W F1 π1 σ H1 (lcLoopO i0 ps0 t tt fe vs π1 (ps.drop i) acc π') K
section
variable {X : Cx} {c : Ctx} {w : Ws} {elt tg : Expr} {x : Str} {xp : Pos} {ifs : List Expr} {scope : Scope} {own : List (Str × Nat)} {pos : Pos} {i0 : Nat} {t : TgF} {ft : M Bool} {fe : M P} {sl : List Nat}
theorem wk_own {F : Hp} {a : Addr} {vs : List V} {ps : List P} {G : Hp} (hG : G a = some (.lst vs)) (r : Rps c F ps vs) {K : PySem.W.Frag} :
    (Itl K a).stop ps.length G ∧ (∀ i, i < ps.length → (Itl K a).go i G) ∧ ∀ i p x G', ps[i]? = some p → (Itl K a).yld i G x G' → G' = G ∧ Rp c F p x :=
  ⟨⟨vs, .of hG, by rw [rps_len r]; exact Nat.le_refl _⟩, fun i hi => ⟨vs, vs[i]'(by rw [← rps_len r]; exact hi), .of hG, List.getElem?_eq_getElem _⟩, fun i p x G' e y => by
    obtain ⟨rfl, y⟩ := y
    exact ⟨rfl, get_rp r e (y vs (.of hG))⟩⟩
theorem lcO_weak (hsl : ∀ j ∈ sl, j ∈ own.map (·.2)) {K : PySem.W.Frag} {tl : TE} (htl : ∀ σ H (a : Addr), σ[i0]? = some (some (.ref a)) → ∀ Q : VK, Q (.ref a) H → tl σ H Q) : ∀ σ H Q, tE c w (lcOF i0 t ft fe (own.map (·.2))) σ H Q →
    tLc (iTwo K tl) (tG c w.blk sl t) (tT c w.blk ft) (tV c w.blk fe) (own.map (·.2)) σ H Q := fun σ H Q ⟨F, π, gg, s, po⟩ => by
  generalize own.map (·.2) = vs at *
  unfold lcOF at po
  cases e0 : getL π i0 with
  | none => rw [e0] at po; exact po.elim
  | some ps =>
    simp only [e0] at po
    by_cases hcc : chk vs π = true ∧ i0 ∉ vs
    case neg => rw [if_neg hcc] at po; exact po.elim
    rw [if_pos hcc] at po
    obtain ⟨hc, hi0⟩ := hcc
    obtain ⟨a, va0, hσ, hHa, ra0⟩ := s.getL e0
    refine htl σ H a hσ _ (.inl ⟨a, va0, rfl, .of hHa, fun hz => fun D hD => ?_⟩)
    have gD : Gr F H F (L2.upd H D (.lst [])) := gr_lst s.le hD
    obtain ⟨sw, tw⟩ := wipe_ok s vs fun v hv => chk_at hc hv
    have sgi : (wipe σ vs)[i0]? = some (some (.ref a)) := by rw [wipe_get, if_neg fun h => hi0 h.1]; exact hσ
    refine ⟨fun i m H' => m = ps.length - i ∧ i ≤ ps.length ∧ LcInvO c w i0 ps t ft fe vs F π σ H ps (fun r π' F' H' => ∀ v, RR c π H F' π' σ H' r v → Q v H') D i H',
      ⟨_, rfl, Nat.zero_le _, F, wipeE π vs, [], [], Le.refl _, gg, gD.sr sw, upd_same, rps_nil, Nat.le_refl _, s.le.gone hD, fun z => ?_, gD.tr, po⟩, ?_⟩
    · obtain ⟨u, hu⟩ := own_some sw z
      rw [hD] at hu; cases hu
    rintro i m H' ⟨rfl, hi, F', π', acc, va, l1, g', s', hDa, ra, hal, hFD, hnD, t', po'⟩
    have hstay : getL π' i0 = some ps := by
      by_cases z : getL π' i0 = some ps
      · exact z
      · cases q : ps.drop i with
        | nil => rw [q] at po'; unfold lcLoopO at po'; rw [if_neg z] at po'; exact po'.elim
        | cons p l => rw [q] at po'; unfold lcLoopO at po'; rw [if_neg z] at po'; exact po'.elim
    obtain ⟨a', vb, hσ', hHb, rb⟩ := s'.getL hstay
    rw [sgi] at hσ'
    have ea : a = a' := by injection Option.some.inj (Option.some.inj hσ')
    subst ea
    obtain ⟨wstop, wgo, wyld⟩ := wk_own (K := K) hHb rb
    by_cases hlt : i < ps.length
    · refine .inr ⟨wgo i hlt, fun H2 => (ps.length - (i + 1)) = ps.length - (i + 1) ∧ i + 1 ≤ ps.length ∧ LcInvO c w i0 ps t ft fe vs F π σ H ps (fun r π' F' H' => ∀ v, RR c π H F' π' σ H' r v → Q v H') D (i + 1) H2,
        fun H2 q => ⟨ps.length - (i + 1), by omega, q⟩, fun x H2 y => ?_⟩
      obtain ⟨e2, rx⟩ := wyld i ps[i] x H2 (List.getElem?_eq_getElem hlt) y
      subst e2
      rw [List.drop_eq_getElem_cons hlt] at po'
      refine ⟨F', π', ps[i], g', s', rx, ?_⟩
      unfold lcLoopO at po'
      rw [if_pos hstay] at po'
      cases e1 : t ps[i] π' with
      | none => simp only [e1] at po'; exact po'.elim
      | some π2 =>
        simp only [e1] at po'
        intro σ3 s3 t3 k3 n3
        have hw : wipe σ3 vs = wipe σ vs := wipe_same (fun j z => k3 j fun q => z (hsl j q)) (by rw [n3, wipe_length])
        refine ⟨hw, F', π2, g', s3, ?_⟩
        have fin : ∀ {π4 : En} {F4 H4 : Hp}, chk vs π4 = true → Tr F' π2 σ3 H2 F4 π4 σ3 H4 → SR c F4 π4 σ3 H4 → SR c F4 (wipeE π4 vs) (wipe σ vs) H4 ∧ Tr F (wipeE π vs) (wipe σ vs) H F4 (wipeE π4 vs) (wipe σ vs) H4 ∧ H4 D = some (.lst va) ∧ F4 D = none ∧ ¬ Own (wipeE π4 vs) (wipe σ vs) D := fun {π4 F4 H4} hc4 t4 s4 => by
          obtain ⟨s6, t6⟩ := wipe_ok s4 vs fun v hv => chk_at hc4 hv
          have tl := t6 _ _ _ _ (t3.trans t4)
          rw [hw] at s6 tl
          refine ⟨s6, t'.trans tl, tl.keep D _ hDa hnD, ?_, fun z => ?_⟩
          · cases q : F4 D with
            | none => rfl
            | some x =>
              rcases tl.new D (by rw [q]; exact fun z => nomatch z) with z | z | z
              · exact absurd hFD z
              · rw [hDa] at z; cases z
              · exact absurd z hnD
          · rcases tl.own D z with q | q
            · rw [hDa] at q; cases q
            · exact hnD q
        cases e2 : ft π2 with
        | bad => simp only [e2] at po'; exact po'.elim
        | exc C qs π4 => simp only [e2] at po'; exact po'.elim
        | ok b π4 =>
          intro F4 H4 t4 s4
          have l4 : Le F F4 := l1.trans t4.le
          have g4 := w.mono _ _ t4.le g'
          cases b with
          | false =>
            simp only [e2] at po'
            by_cases hc4 : chk vs π4 = true
            case neg => rw [if_neg hc4] at po'; exact po'.elim
            rw [if_pos hc4] at po'
            obtain ⟨s6, tl, d1, d2, d3⟩ := fin hc4 t4 s4
            refine iteF ?_
            exact ⟨rfl, hlt, F4, _, acc, va, l4, g4, s6, d1, Rps.mono t4.le _ _ ra, by omega, d2, d3, tl, po'⟩
          | true =>
            simp only [e2] at po'
            refine iteT ?_
            refine ⟨F4, π4, g4, s4, ?_⟩
            cases e3 : fe π4 with
            | bad => simp only [e3] at po'; exact po'.elim
            | exc C qs π5 => simp only [e3] at po'; exact po'.elim
            | ok q π5 =>
              simp only [e3] at po'
              by_cases hc5 : chk vs π5 = true
              case neg => rw [if_neg hc5] at po'; exact po'.elim
              rw [if_pos hc5] at po'
              intro F5 H5 t5 s5 y hy
              obtain ⟨s6, tl, d1, d2, d3⟩ := fin hc5 (t4.trans t5) s5
              have hva : va.length = acc.length := (rps_len ra).symm
              have hpz : ps.length ≤ sizeLine := by rw [rps_len ra0]; exact hz
              refine ⟨va, d1, by omega, rfl, hlt, F5, _, acc ++ [q], va ++ [y], l4.trans t5.le, w.mono _ _ t5.le g4, s6.other d2 d3, upd_same, rps_append (Rps.mono (t4.le.trans t5.le) _ _ ra) (rps_cons hy rps_nil), by simp; omega, d2, d3, tl.other hD, po'⟩
    · have e : i = ps.length := by omega
      subst e
      rw [List.drop_length] at po'
      unfold lcLoopO at po'
      rw [if_pos hstay] at po'
      obtain ⟨s5, t5, ow5⟩ := rest_ok s hc s' t'
      exact .inl ⟨wstop, po' F' H' t5 s5 _ ⟨D, rfl, hFD, fun z => hnD (ow5 D z), ⟨va, hDa, ra⟩, .inl hD⟩⟩
theorem htl_name {pos : Pos} : ∀ (σ : L2.St) (H : Hp) (a : Addr), σ[i0]? = some (some (.ref a)) → ∀ Q : VK, Q (.ref a) H → tVar i0 σ H Q := fun σ H a h Q q => ⟨.ref a, h, q⟩
theorem p_lcO (hsl : ∀ j ∈ sl, j ∈ own.map (·.2)) (hc : X.calm = true) (hN : X.N.Nodup) (hi0 : X.N[i0]? = some x) (hv : Vis X.env.scope x) (ok : BlkOk X.N X.env.scope scope own)
    (hg : ∀ (s : Shared) (H : Hp) (C : Addr) (cl : List (Str × Addr)) (fp : List Addr), PG (X.blk s H scope (compEnvC scope cl C X.env) fp) tg (tG c w.blk sl t)) (ht : ∀ (s : Shared) (H : Hp) (C : Addr) (cl : List (Str × Addr)) (fp : List Addr), PTs (X.blk s H scope (compEnvC scope cl C X.env) fp) ifs (tT c w.blk ft))
    (he : ∀ (s : Shared) (H : Hp) (C : Addr) (cl : List (Str × Addr)) (fp : List Addr), PE (X.blk s H scope (compEnvC scope cl C X.env) fp) elt (tV c w.blk fe)) (hs : ∀ y, foldedSetIterable (.Name x xp) X.env y = pure y := by intro _; rfl)
    (hd : (x == ("__debug__" : Str)) = false := by decide) (hcd : (x == ("__classdict__" : Str)) = false := by decide) :
    PE X (.ListComp elt [⟨tg, .Name x xp, ifs, 0⟩] scope pos) (tE c w (lcOF i0 t ft fe (own.map (·.2)))) :=
  pe_weak (pe_lc hc hN (pi_two (pe_var (i := i0) hi0 hv hd hcd)) ok hg ht he hs) (lcO_weak hsl (fun σ H a h Q q => ⟨.ref a, h, q⟩))
end
end PV

namespace PV
open PySem PySem.Spec L2 PyProof.Rows

/-! ### short forms -/
theorem hu64 {k : Nat} {A : Around} (r : Room k A) : A.units + 64 < cLine := by have := r.un; omega
theorem hu65 {k : Nat} {A : Around} (r : Room k A) : A.units + 65 < cLine := by have := r.un; omega
/-- the def x of n parameters computes Fn -/
structure Ca (P : Program) (w : World) (K : PySem.W.Frag) (mg : Str → Option Value) (base : Heap) (c : Ctx) (k : Nat) (x : Str) (n : Nat) (Fn : FN) : Prop where
  ex : ∃ (f : Addr) (fd : FuncData) (ps : List Str), FnG P w K mg base k f fd ps (spF c n Fn) ∧ mg x = some (.ref f) ∧ PySem.W.keepIn K (.ref f) = true ∧ Binds K fd ps []
/-- where the def x stands -/
structure At (K : PySem.W.Frag) (mg : Str → Option Value) (x : Str) (st : Stmt) (ps : List Str) : Prop where
  ex : ∃ (f : Addr) (fd : FuncData), Fun K x x st f fd ∧ mg x = some (.ref f) ∧ Binds K fd ps []
theorem ca_of {P : Program} {w : World} {K : PySem.W.Frag} {mg : Str → Option Value} {base : Heap} {c : Ctx} {k : Nat} {x : Str} {st : Stmt} {N ps : List Str} {body : M Fl} {m n : Nat} (D : At K mg x st ps) (S : FnScope N ps (defScope st)) (hn : ps.length = n) (hm : N.length - ps.length = m)
    (hb : ∀ (f : Addr) (cdv : Value) (A : Around) (outer : List Env) (s : Shared) (H : Hp) (E : XK), A.guards = some [] → Room k (A.deeper (envOfC x (defScope st) s.heap.objs.size f cdv)) →
      PSs (cxOf (L2.CX P w) P w K mg base N x (defScope st) f cdv A outer s H E) (defBody st) (tS c (wE E) body)) : Ca P w K mg base c (k + 1) x n (fnF m body) := by
  subst hn hm
  obtain ⟨f, fd, F, hm, hb2⟩ := D.ex
  exact ⟨f, fd, ps, fn_okG F S fun cdv A outer s H E hg hr => hb f cdv A outer s H E hg hr, hm, F.kp, hb2⟩
theorem Ca.mono {P : Program} {w : World} {K : PySem.W.Frag} {mg : Str → Option Value} {base : Heap} {c : Ctx} {j k : Nat} {x : Str} {n : Nat} {Fn : FN} (C : Ca P w K mg base c j x n Fn) (h : j ≤ k) : Ca P w K mg base c k x n Fn := by
  obtain ⟨f, fd, ps, G, r⟩ := C.ex
  exact ⟨f, fd, ps, G.mono h, r⟩
section
variable {X : Cx} {c : Ctx} {w : Wi} {k j n : Nat} {Fn : FN} {x : Str} {p pos : Pos} {e : Expr} {es : List Expr} {fa : M (List Rs)} {id T : String} {r : List V → Hp → VK → Prop} {o : List P → Option Rv}
theorem p_ca (C : Ca X.prog X.w X.K X.mg X.base c j x n Fn) (hj : j ≤ k) (hgd : X.A.guards = some []) (hr : Room k X.A) (tk : Takes X w.W) (hg : Gl X x)
    (ha : PA X (e :: es) (tR c w fa)) (hlen : ∀ π rs π', fa π = .ok rs π' → rs.length = n) (hdb : (x == ("__debug__" : Str)) = false := by decide) (he : starEach (e :: es) X.env = (false, eval e X.env) :: starEach es X.env := by rfl) (hpl : (backTo pos (starEach es X.env)).any (·.1) = false := by rfl) :
    PE X (.Call (.Name x p) (e :: es) [] pos) (tE c w (callF Fn fa)) := by
  obtain ⟨f, fd, ps, G, hm, hk, hb⟩ := C.ex
  exact p_callG G hgd (hr.mono hj) hg hm hk hb tk ha hlen hdb he hpl
theorem p_blt (hop : CallR X (.builtin id) r) (hv : CalV c r o) (hg : Gl X x) (hm : X.mg x = none) (hb : bootBuiltins x = some (.builtin id)) (ha : PA X (e :: es) (tR c w fa)) (hn : x ≠ "__name__" := by decide) (hdb : (x == ("__debug__" : Str)) = false := by decide)
    (he : starEach (e :: es) X.env = (false, eval e X.env) :: starEach es X.env := by rfl) (hpl : (backTo pos (starEach es X.env)).any (·.1) = false := by rfl) : PE X (.Call (.Name x p) (e :: es) [] pos) (tE c w (calF o fa)) :=
  pe_weak (pe_callB hop hg hm hb ha hn hdb he hpl) (cal_weak hv)
theorem p_bty (hop : CallR X (.type T) r) (hv : CalV c r o) (hg : Gl X x) (hm : X.mg x = none) (hb : bootBuiltins x = some (.type T)) (ha : PA X (e :: es) (tR c w fa)) (hn : x ≠ "__name__" := by decide) (hdb : (x == ("__debug__" : Str)) = false := by decide)
    (he : starEach (e :: es) X.env = (false, eval e X.env) :: starEach es X.env := by rfl) (hpl : (backTo pos (starEach es X.env)).any (·.1) = false := by rfl) : PE X (.Call (.Name x p) (e :: es) [] pos) (tE c w (calF o fa)) :=
  pe_weak (pe_callTy hop hg hm hb ha hn hdb he hpl) (cal_weak hv)
theorem p_ty {T : String} (hg : Gl X x) (hm : X.mg x = none) (hb : bootBuiltins x = some (.type T)) (hn : x ≠ "__name__" := by decide) (hdb : (x == ("__debug__" : Str)) = false := by decide) : PE X (.Name x pos) (tE c w (cF (.ty T))) :=
  pe_weak (pe_bltn (v := .ty T) hg hm hb rfl hn hdb) (tC_of fun _ => mk_ty)
end
theorem bb_len : bootBuiltins "len" = some (.builtin "len") := by decide +kernel
theorem bb_abs : bootBuiltins "abs" = some (.builtin "abs") := by decide +kernel
theorem bb_sum : bootBuiltins "sum" = some (.builtin "sum") := by decide +kernel
theorem bb_max : bootBuiltins "max" = some (.builtin "max") := by decide +kernel
theorem bb_min : bootBuiltins "min" = some (.builtin "min") := by decide +kernel
theorem bb_all : bootBuiltins "all" = some (.builtin "all") := by decide +kernel
theorem bb_any : bootBuiltins "any" = some (.builtin "any") := by decide +kernel
theorem bb_repr : bootBuiltins "repr" = some (.builtin "repr") := by decide +kernel
theorem bb_isinstance : bootBuiltins "isinstance" = some (.builtin "isinstance") := by decide +kernel
theorem bb_int : bootBuiltins "int" = some (.type "int") := by decide +kernel
theorem bb_bool : bootBuiltins "bool" = some (.type "bool") := by decide +kernel
theorem bb_str : bootBuiltins "str" = some (.type "str") := by decide +kernel
theorem bb_list : bootBuiltins "list" = some (.type "list") := by decide +kernel
theorem bb_tuple : bootBuiltins "tuple" = some (.type "tuple") := by decide +kernel
end PV
namespace PV
open PySem PySem.Spec L2 PyProof.Rows
theorem ca_bad {P : Program} {w : World} {K : PySem.W.Frag} {mg : Str → Option Value} {base : Heap} {c : Ctx} {k : Nat} {x : Str} {st : Stmt} {ps : List Str} (D : At K mg x st ps) : Ca P w K mg base c k x ps.length (fun _ => .bad) := by
  obtain ⟨f, fd, F, hm, hb2⟩ := D.ex
  refine ⟨f, fd, ps, ⟨fun vs H Q E ⟨F, πs, hl, _, sr, _⟩ => ?_, fun A outer s H args us vs Q E _ _ _ _ _ ⟨F, πs, _, _, _, po⟩ => po.elim⟩, hm, F.kp, hb2⟩
  have := sr.len
  simp at this
  omega
theorem lay1 {f : Str} : ∀ vs : List V, (([f]).zip vs).reverse.lookup f = vs[0]?
  | [] => rfl
  | v :: vs => by simp [List.lookup]
theorem lay2_0 {f g : Str} (h : (f == g) = false) : ∀ vs : List V, (([f, g]).zip vs).reverse.lookup f = vs[0]?
  | [] => rfl
  | [v] => by simp [List.lookup]
  | v :: w :: vs => by simp [List.lookup, h]
theorem lay2_1 {f g : Str} (h : (g == f) = false) : ∀ vs : List V, (([f, g]).zip vs).reverse.lookup g = vs[1]?
  | [] => rfl
  | [v] => by simp [List.lookup, h]
  | v :: w :: vs => by simp [List.lookup]
theorem t_w {X : Cx} {e : Expr} {t : TT} (h : PW X e t) : PT X e t := h.pt
end PV
namespace PV
open PySem PySem.Spec L2 PyProof.Rows
theorem fnG_by {P : Program} {w : World} {K : PySem.W.Frag} {mg : Str → Option Value} {base : Heap} {c : Ctx} {k : Nat} {x : Str} {f : Addr} {fd : FuncData} {st : Stmt} {N ps : List Str} {body : M Fl} {m n : Nat} (Fd : Fun K x x st f fd) (S : FnScope N ps (defScope st)) (hn : ps.length = n) (hm : N.length - ps.length = m)
    (hb : ∀ (cdv : Value) (A : Around) (outer : List Env) (s : Shared) (H : Hp) (E : XK), A.guards = some [] → Room k (A.deeper (envOfC x (defScope st) s.heap.objs.size f cdv)) →
      PSs (cxOf (L2.CX P w) P w K mg base N x (defScope st) f cdv A outer s H E) (defBody st) (tS c (wE E) body)) : FnG P w K mg base (k + 1) f fd ps (spF c n (fnF m body)) := by
  subst hn hm
  exact fn_okG Fd S hb
/-- law's promise: a list of at most 63 ints is handed in, True comes out -/
def spLaw (K : PySem.W.Frag) : Sp := fun vs H Q _ => ∃ (a : Addr) (ns : List Int), vs = [.ref a] ∧ SqL K H a (ns.map V.int) ∧ ns.length ≤ 63 ∧ ∀ H', Q (.bl true) H'
theorem law_by {P : Program} {w : World} {K : PySem.W.Frag} {mg : Str → Option Value} {base : Heap} {c : Ctx} {k : Nat} {f : Addr} {fd : FuncData} {ps : List Str} {Fn : FN} (hc : c.K = K) (G : FnG P w K mg base k f fd ps (spF c 1 Fn))
    (hp : ∀ ns : List Int, ns.length ≤ 63 → ∃ πs', Fn [.val (.scr ns)] = .ok (.val (.bl true)) πs') : FnG P w K mg base k f fd ps (spLaw K) := by
  have conv : ∀ vs H Q E, spLaw K vs H Q E → spF c 1 Fn vs H Q E := fun vs H Q E ⟨a, ns, e, hS, hl, q⟩ => by
    subst e hc
    obtain ⟨πs', he⟩ := hp ns hl
    refine ⟨H, [.val (.scr ns)], rfl, fun i o z => ?_, ⟨Le.refl H, rfl, fun i p z => ?_, fun i s o z z2 => ?_, fun i j s s' o o' b z z2 _ _ _ _ => ?_⟩, ?_⟩
    · cases i <;> simp at z
    · cases i with
      | zero => simp at z; subst z; exact ⟨_, rfl, mk_scr hS⟩
      | succ i => simp at z
    · cases i with
      | zero => simp at z; subst z; cases z2
      | succ i => simp at z
    · cases i with
      | zero => simp at z; subst z; cases z2
      | succ i => simp at z
    · rw [he]
      intro v F' H' t s' hr
      rw [rp_bl (show Rp c F' (.bl true) v from hr)]
      exact q H'
  exact ⟨fun vs H Q E h => G.len vs H Q E (conv vs H Q E h), fun A outer s H args us vs Q E hg hr e0 hb r h => G.run A outer s H args us vs Q E hg hr e0 hb r (conv vs H Q E h)⟩
/-- what stands of a def -/
theorem at_mk {K : PySem.W.Frag} {mg : Str → Option Value} {h : Heap} {x : Str} {st : Stmt} {ps : List Str} {f : Addr} {od an : Option Addr} {sl : Array (Option Value)} {oc kV dc pm cd ct : Value} (X : K.In h) (G : h.Ns mainGlobals mg)
    (a : PySem.W.nsIn K mainGlobals x = some (some (.ref f))) (l : K.lookup f = some ⟨oc, od, .func (PySem.W.fnOf x x (defArgs st) (defBody st) (defScope st) .none kV dc pm an cd ct), sl⟩) (c : PySem.W.codeIn K cd x = true) (k : PySem.W.keepIn K (.ref f) = true)
    (hb : ∀ (kV doc pm : Value) (an : Option Addr) (cdv ct : Value) (us : List Value), us.length = ps.length → bindArgs (PySem.W.fnOf x x (defArgs st) (defBody st) (defScope st) .none kV doc pm an cdv ct) ⟨us, []⟩ = pure (ps.zip us)) : At K mg x st ps :=
  ⟨f, _, fun_mk (st := st) l c k, PySem.W.mg_of X G a, (fun_mk (st := st) l c k).binds hb⟩
end PV

namespace PV
open PySem PySem.Spec L2 PyProof.Rows
theorem sup_mk {K : PySem.W.Frag} {C B : Addr} {nm : Str} {cd cdB : ClassData} {c0 : Value} {d0 : Option Addr} {s0 : Array (Option Value)} {v : Value} (h1 : PySem.W.clsIn K C = some cd) (h2 : K.lookup B = some ⟨c0, d0, .cls cdB, s0⟩)
    (h3 : (cd.mro.dropWhile (· != .ref C)).drop 1 = cdB.mro) (h4 : PySem.W.findIn K (.ref B) nm = some (some v)) : PySem.W.ks_superIn K C C nm = some (some v) := by
  unfold PySem.W.ks_superIn
  rw [h1, Option.bind_some, h3]
  unfold PySem.W.findIn at h4
  simp only [h2] at h4
  exact h4
end PV

namespace PV
open PySem PySem.Spec L2 PyProof.Rows

/-! ### fields of own objects -/
def fldP (lay : Nat → List Str) (C0 : Nat) (f : Str) : P → Option Rv
  | .obj C vs => if C = C0 then (((lay C).zip vs).lookup f).map .val else none
  | _ => none
theorem zip_lookup {c : Ctx} {F : Hp} {f : Str} : ∀ {l : List Str} {ps : List P} {vs : List V} {p : P}, Rps c F ps vs → (l.zip ps).lookup f = some p → ∃ v, (l.zip vs).lookup f = some v ∧ Rp c F p v
  | [], _, _, _, _, e => by cases e
  | _ :: _, [], _, _, _, e => by cases e
  | x :: l, q :: ps, _, p, r, e => by
    obtain ⟨v, vs, rfl, r1, r2⟩ := rps_inv r
    rw [List.zip_cons_cons, List.lookup_cons] at e
    rw [List.zip_cons_cons, List.lookup_cons]
    cases h : f == x with
    | true =>
      rw [h] at e
      cases e
      exact ⟨v, rfl, r1⟩
    | false =>
      rw [h] at e
      exact zip_lookup r2 e
def rFld (K : PySem.W.Frag) (f : Str) : V → Hp → VK → Prop := fun x H Q => ∃ a C dx fs v, x = .ref a ∧ H a = some (.ins C dx fs) ∧ Cls K C ∧ NoAttr K C f ∧ fs.lookup f = some v ∧ Q v H
theorem Rb.obj {c : Ctx} {F H : Hp} {C : Nat} {ps : List P} {v : V} (l : Le F H) (h : Rb c F H (.obj C ps) v) : ∃ a dx vs, v = .ref a ∧ H a = some (.ins (c.cls C) dx ((c.lay C).zip vs)) ∧ Rps c F ps vs := by
  rcases h with h | ⟨a, o, e, h1, h2⟩
  · obtain ⟨a, dx, vs, e, h1, h2⟩ := rp_obj h
    exact ⟨a, dx, vs, e, l.ins h1, h2⟩
  · cases o with
    | lst qs => cases h2
    | dct t ks ws => cases h2
    | obj C' qs =>
      cases h2
      obtain ⟨dx, vs, h1, h3⟩ := h1
      exact ⟨a, dx, vs, e, h1, h3⟩
theorem v_fld {c : Ctx} {C0 : Nat} {f : Str} (hC : Cls c.K (c.cls C0)) (hn : NoAttr c.K (c.cls C0) f) : UnV c (rFld c.K f) (fldP c.lay C0 f) := by
  intro F H p x res Q l h e k
  cases p with
  | obj C vs =>
    change (if C = C0 then (((c.lay C).zip vs).lookup f).map Rv.val else none) = some res at e
    by_cases z : C = C0
    · subst z
      rw [if_pos rfl] at e
      cases q : ((c.lay C).zip vs).lookup f with
      | none => rw [q] at e; cases e
      | some p =>
        rw [q] at e
        cases e
        obtain ⟨a, dx, us, rfl, h1, h2⟩ := h.obj l
        obtain ⟨v, h3, h4⟩ := zip_lookup h2 q
        exact ⟨a, _, dx, _, v, rfl, h1, hC, hn, h3, give l k h4⟩
    · rw [if_neg z] at e; cases e
  | _ => cases e
section
variable {X : Cx} {c : Ctx} {w : Wi} {e : Expr} {f : Str} {pos : Pos} {fe : M Rs} {C0 : Nat}
theorem p_fld (hK : X.K = c.K) (hC : Cls c.K (c.cls C0)) (hn : NoAttr c.K (c.cls C0) f) (he : PE X e (tE c w fe)) (hb : attributeBase e f X.env (eval e X.env) = eval e X.env := by rfl) : PE X (.Attribute e f pos) (tE c w (unF (fldP c.lay C0 f) fe)) :=
  pe_weak (pe_fld he hb) fun σ H Q ⟨F, π, gg, s, po⟩ => by
    refine ⟨F, π, gg, s, (Po.split po).mono fun r1 π1 F1 H1 t1 s1 p1 x hx => ?_⟩
    unfold op1 at p1
    cases e1 : rdP π1 r1 with
    | none => rw [e1] at p1; exact p1.elim
    | some q1 =>
      rw [e1] at p1
      obtain ⟨rv, e3, k⟩ := outR_post s1 p1
      rw [hK]
      refine v_fld hC hn F1 H1 q1 x rv Q s1.le (hx.rb s1 e1) e3 fun v F3 H3 gr rn => ?_
      obtain ⟨k1, k2⟩ := k v F3 H3 gr rn
      exact k1 v (k2.base t1)
end
/-- a field is put: at its place, or behind the others -/
def putV {α : Type} (f : Str) (y : α) : List Str → List α → Option (List α)
  | [], _ => none
  | g :: l, [] => if f = g then some [y] else none
  | g :: l, v :: vs => if f = g then some (y :: vs) else (putV f y l vs).map (v :: ·)
theorem putV_F {c : Ctx} {F : Hp} {f : Str} {p : P} {y : V} (hy : Rp c F p y) : ∀ {l : List Str} {ps qs : List P} {vs : List V}, Rps c F ps vs → putV f p l ps = some qs → ∃ us, putF f y (l.zip vs) = l.zip us ∧ Rps c F qs us
  | [], _, _, _, _, e => by cases e
  | g :: l, [], _, _, r, e => by
    rw [rps_nil_inv r]
    unfold putV at e
    split at e
    · rename_i h
      cases e
      subst h
      exact ⟨[y], by cases l <;> rfl, rps_cons hy rps_nil⟩
    · cases e
  | g :: l, q :: ps, _, _, r, e => by
    obtain ⟨v, vs, rfl, r1, r2⟩ := rps_inv r
    unfold putV at e
    split at e
    · rename_i h
      cases e
      subst h
      refine ⟨y :: vs, ?_, rps_cons hy r2⟩
      show (if f = f then (f, y) :: l.zip vs else _) = _
      rw [if_pos rfl]; rfl
    · rename_i h
      cases e1 : putV f p l ps with
      | none => rw [e1] at e; cases e
      | some qs' =>
        rw [e1] at e
        cases e
        obtain ⟨us, h1, h2⟩ := putV_F hy r2 e1
        refine ⟨v :: us, ?_, rps_cons r1 h2⟩
        show (if g = f then _ else (g, v) :: putF f y (l.zip vs)) = _
        rw [if_neg (fun z => h z.symm), h1]; rfl
/-- slot i's own object of class C0 -/
def slO (C0 : Nat) : Sl → Option (List P)
  | .own (.obj C vs) => if C = C0 then some vs else none
  | .loan (.obj C vs) => if C = C0 then some vs else none
  | _ => none
theorem slO_ow {C0 : Nat} {sl : Sl} {vs : List P} (h : slO C0 sl = some vs) : sl.ow = some (.obj C0 vs) := by
  have key : ∀ o, (match o with | O.obj C vs => if C = C0 then some vs else none | _ => none) = some vs → some o = some (.obj C0 vs) := fun o h => by
    cases o with
    | obj C us =>
      by_cases z : C = C0
      · subst z
        have h' : (if C = C then some us else none) = some vs := h
        rw [if_pos rfl] at h'
        cases h'
        rfl
      · have h' : (if C = C0 then some us else none) = some vs := h
        rw [if_neg z] at h'
        cases h'
    | _ => cases h
  cases sl with
  | own o => exact key o (by cases o <;> exact h)
  | loan o => exact key o (by cases o <;> exact h)
  | _ => cases h
def getO (C0 : Nat) (π : En) (i : Nat) : Option (List P) := (π[i]?).bind (slO C0)
def putO (C0 : Nat) (π : En) (i : Nat) (vs : List P) : En := match π[i]? with
  | some sl => π.set i (sl.put (.obj C0 vs))
  | none => π
def fstR (lay : Nat → List Str) (i C0 : Nat) (f : Str) (p : P) : M Fl := fun π => match getO C0 π i with
  | some vs => (match putV f p (lay C0) vs with
    | some ws => .ok .nx (putO C0 π i ws)
    | none => .bad)
  | none => .bad
/-- self.f = e -/
def fstF (lay : Nat → List Str) (i C0 : Nat) (f : Str) (fe : M P) : M Fl := fun π => (fe π).bind (fstR lay i C0 f)
section
variable {X : Cx} {c : Ctx} {w : Ws} {e : Expr} {x f : Str} {xp tp pos : Pos} {i C0 : Nat} {fe : M P}
theorem s_fst (hK : X.K = c.K) (hC : Cls c.K (c.cls C0)) (hn : NoAttr c.K (c.cls C0) f) (hl : (c.lay C0).length < 1000) (ho : PE X (.Name x xp) (tE c w (varF i))) (he : PE X e (tV c w fe))
    (hs : swapsWith e (some (.Attribute (.Name x xp) f tp)) pos.line X.env = pure false := by rfl) : PS X (.Assign [.Attribute (.Name x xp) f tp] e pos) (tS c w (fstF c.lay i C0 f fe)) :=
  ps_weak (ps_fld ho he hs) fun D σ H ⟨F, π, gg, s, po⟩ => by
    refine ⟨F, π, gg, s, (PoS.split po).mono fun p π1 F1 H1 t1 s1 p1 y hy => ?_⟩
    unfold fstR at p1
    cases e1 : getO C0 π1 i with
    | none => rw [e1] at p1; exact p1.elim
    | some vs =>
      rw [e1] at p1
      cases e2 : putV f p (c.lay C0) vs with
      | none => simp only [e2] at p1; exact p1.elim
      | some ws =>
        simp only [e2] at p1
        obtain ⟨sl, h1, h2⟩ : ∃ sl, π1[i]? = some sl ∧ slO C0 sl = some vs := by
          unfold getO at e1
          cases q : π1[i]? with
          | none => rw [q] at e1; cases e1
          | some sl => rw [q] at e1; exact ⟨sl, rfl, e1⟩
        have how := slO_ow h2
        obtain ⟨a, hσ, hF, dx, us, hH, hr⟩ := s1.ow i sl _ h1 how
        refine ⟨F1, π1, w.mono _ _ t1.le gg, s1, ?_⟩
        have hvar : varF i π1 = .ok (.bor i) π1 := by
          unfold varF
          rw [h1]
          cases sl with
          | own o => rfl
          | loan o => rfl
          | _ => cases how
        rw [hvar]
        intro F2 H2 t2 s2 v2 hv2
        have hv3 : v2 = .ref a := by
          have z : σ[i]? = some (some v2) := hv2
          rw [hσ] at z
          exact (Option.some.inj (Option.some.inj z)).symm
        obtain ⟨a', hσ', _, dx', us', hH', hr'⟩ := s2.ow i sl _ h1 how
        rw [hσ] at hσ'
        cases hσ'
        obtain ⟨zs, e3, hz⟩ := putV_F (Rp.mono t2.le _ _ hy) hr' e2
        have hput : putO C0 π1 i ws = π1.set i (sl.put (.obj C0 ws)) := by unfold putO; rw [h1]
        rw [hput] at p1
        obtain ⟨s3, t3⟩ := s2.put (o' := .obj C0 ws) (u := .ins (c.cls C0) dx' (putF f y ((c.lay C0).zip us'))) h1 how hσ ⟨dx', zs, by rw [upd_same, e3], hz⟩
        refine ⟨a, c.cls C0, dx', _, hv3, hH', by rw [hK]; exact hC, by rw [hK]; exact hn, by rw [List.length_zip]; omega, ?_⟩
        exact p1 F2 σ _ (t2.trans t3) s3
end
end PV

namespace PV
open PySem PySem.Spec L2 PyProof.Rows

/-! ### C(e, ..): an own object is made; its __init__ may raise -/
def mkR (C : Nat) (Fi : FN) (rs : List Rs) : M Rs := fun π => match vals rs with
  | none => .bad
  | some ps => match Fi (.loan (.obj C []) :: ps.map .val) with
    | .ok (.val .non) (.loan (.obj C' vs) :: _) => if C' = C then .ok (.own (.obj C vs)) π else .bad
    | .exc C' qs _ => .exc C' qs π
    | _ => .bad
def mkF (C : Nat) (Fi : FN) (fa : M (List Rs)) : M Rs := fun π => (fa π).bind (mkR C Fi)
section
variable {c : Ctx} {F H : Hp} {π : En} {σ : L2.St} {x dx : Addr} {C : Nat} {ps : List P} {vs : List V}
theorem mk_sr (l : Le F H) (hx : H x = none) (hd : H dx = none) (hne : dx ≠ x) (r : Rps c F ps vs) :
    SR c F (.loan (.obj C []) :: ps.map .val) ((V.ref x :: vs).map some) (L2.upd (L2.upd H dx (.own x)) x (.ins (c.cls C) dx [])) ∧ noOwn (.loan (.obj C []) :: ps.map .val) ∧
      (∀ a, Own (.loan (.obj C []) :: ps.map .val) ((V.ref x :: vs).map some) a → a = x) := by
  have get : ∀ (i : Nat) (s : Sl), (Sl.loan (.obj C []) :: ps.map .val)[i]? = some s → (i = 0 ∧ s = .loan (.obj C [])) ∨ ∃ j p, i = j + 1 ∧ s = .val p ∧ ps[j]? = some p := fun i s e => by
    cases i with
    | zero => left; simp at e; exact ⟨rfl, e.symm⟩
    | succ j =>
      right
      rw [List.getElem?_cons_succ, List.getElem?_map] at e
      cases q : ps[j]? with
      | none => rw [q] at e; cases e
      | some p => rw [q] at e; cases e; exact ⟨j, p, rfl, rfl, q⟩
  refine ⟨⟨(l.updR _ (l.gone hd)).updR _ (l.gone hx), by simp [rps_len r], fun i p e => ?_, fun i s o e1 e2 => ?_, fun i j s s' o o' a e1 e2 e3 e4 _ _ => ?_⟩, fun i o e => ?_, fun a ⟨i, s, o, e1, e2, e3⟩ => ?_⟩
  · rcases get i _ e with ⟨_, q⟩ | ⟨j, q, e1, e2, e3⟩
    · cases q
    · cases e2
      obtain ⟨v, h1, h2⟩ := rps_get r e3
      subst e1
      exact ⟨v, by simp [h1], h2⟩
  · rcases get i _ e1 with ⟨h0, q⟩ | ⟨j, q, _, e4, _⟩
    · subst q h0
      cases e2
      exact ⟨x, rfl, l.gone hx, dx, [], by rw [upd_same]; simp, rps_nil⟩
    · subst e4; cases e2
  · rcases get i _ e1 with ⟨h0, q⟩ | ⟨_, q, _, h4, _⟩
    · rcases get j _ e3 with ⟨h1, _⟩ | ⟨_, q2, _, h4, _⟩
      · rw [h0, h1]
      · subst h4; cases e4
    · subst h4; cases e2
  · rcases get i _ e with ⟨_, q⟩ | ⟨_, q, _, h4, _⟩
    · cases q
    · cases h4
  · rcases get i _ e1 with ⟨h0, q⟩ | ⟨_, q, _, h4, _⟩
    · subst h0
      simp at e3
      exact e3.symm
    · subst h4; cases e2
theorem mk_gr {F' H' : Hp} {πs' : List Sl} (l : Le F H) (hx : H x = none) (hd : H dx = none) (hne : dx ≠ x) (r : Rps c F ps vs)
    (t : Tr F (.loan (.obj C []) :: ps.map .val) ((V.ref x :: vs).map some) (L2.upd (L2.upd H dx (.own x)) x (.ins (c.cls C) dx [])) F' πs' ((V.ref x :: vs).map some) H') (s' : SR c F' πs' ((V.ref x :: vs).map some) H') : Gr F H F' H' := by
  obtain ⟨_, _, ow⟩ := mk_sr (c := c) (C := C) l hx hd hne r
  refine ⟨t.le, s'.le, fun a o e => t.keep a o (by rw [upd_ne (ne_of_none e hx), upd_ne (ne_of_none e hd)]; exact e) fun z => ?_, fun a e => ?_⟩
  · have := ow a z
    subst this
    rw [hx] at e; cases e
  · rcases t.new a e with q | q | q
    · exact .inl q
    · right
      by_cases h1 : a = x
      · rw [h1]; exact hx
      · rw [upd_ne h1] at q
        by_cases h2 : a = dx
        · rw [h2]; exact hd
        · rw [upd_ne h2] at q; exact q
    · right
      rw [ow a q]; exact hx
end
section
variable {X : Cx} {k : Nat} {C f : Addr} {fd : FuncData} {ps : List Str} {sp : Sp} {E : L2.St → XK} {t : TA} {x : Str} {p pos : Pos} {e : Expr} {es : List Expr}
/-- the reading of C(e, ..), what is wished of its exceptions hangs on the slots -/
def tMakeS (C : Addr) (sp : Sp) (E : L2.St → XK) (t : TA) : TE := fun σ H Q => t σ H fun vs H1 => ∀ a dx, H1 a = none → H1 dx = none → dx ≠ a → sp (.ref a :: vs) (L2.upd (L2.upd H1 dx (.own a)) a (.ins C dx [])) (fun v H2 => v = .non ∧ Q (.ref a) H2) (E σ)
theorem pe_makeG (Mm : Mk X.K C f) (G : FnG X.prog X.w X.K X.mg X.base k f fd ps sp) (hgd : X.A.guards = some []) (hr : Room (k + 1) X.A) (hg : Gl X x) (hm : X.mg x = some (.ref C)) (hb : Binds X.K fd ps []) (hx : ∀ σ, PassesAt (L2.CX X.prog X.w) X σ (E σ))
    (ha : PA X (e :: es) t) (hdb : (x == ("__debug__" : Str)) = false := by decide) (he : starEach (e :: es) X.env = (false, eval e X.env) :: starEach es X.env := by rfl) (hpl : (backTo pos (starEach es X.env)).any (·.1) = false := by rfl) :
    PE X (.Call (.Name x p) (e :: es) [] pos) (tMakeS C sp E t) := by
  refine ⟨fun pins s σ H Q I h => wpAny_Call_Name_kw (ld_glob I hg hm (PySem.W.callWith_K (h₀ := X.base) I.ok.mod.kin Mm.kp (thn (ha.run pos pins s σ H _ I h) fun us s1 ⟨vs, H1, I1, r, q⟩ => ⟨I1.kIn, ?_⟩) he hpl) hdb)⟩
  have hq := q (s1.heap.objs.size + 1) s1.heap.objs.size (I1.hok.fresh (Nat.le_succ _)) (I1.hok.fresh (Nat.le_refl _)) (Nat.ne_of_lt (Nat.lt_succ_self _))
  have I2 := Inv.made (C := C) I1
  have r2 : Vals (V.ref (s1.heap.objs.size + 1) :: vs) (Value.ref (s1.heap.objs.size + 1) :: us) := .cons rfl r
  have hl : (Value.ref (s1.heap.objs.size + 1) :: us).length = ps.length := by rw [← r2.length]; exact G.len _ _ _ _ hq
  have b := hb _ (Value.ref (s1.heap.objs.size + 1) :: us) I2.kIn (by rw [List.append_nil]; exact hl)
  rw [List.append_nil] at b
  refine wpAny_call (make_map (f := f) I1.kIn Mm.makes Mm.init (beq_iff_eq.mp Mm.fn) (codeAny_mono (G.run _ X.stack _ _ ⟨Value.ref (s1.heap.objs.size + 1) :: us, []⟩ (Value.ref (s1.heap.objs.size + 1) :: us) _ _ (E σ) ?_ (hr.make C us []) (I2.env0.make C us []) b r2 hq) fun r s' hq' => ?_))
  · first | exact hgd | (show pushGuards _ X.A.guards = some []; rw [hgd]; first | rfl | simp [Code.guards, Code.isGuard, guardIds, pushGuards])
  · cases r with
    | error e => exact hx σ pins _ _ e s' I2 hq'
    | ok fl =>
      cases fl with
      | ret u =>
        obtain ⟨v, H', I3, rv, ev, q3⟩ := I2.after hq'
        subst ev
        exact ⟨rv, ⟨V.ref (s1.heap.objs.size + 1), H', I3, rfl, q3⟩⟩
      | next => exact False.elim hq'
      | brk => exact False.elim hq'
      | cont => exact False.elim hq'
end
section
variable {X : Cx} {c : Ctx} {w : Wi} {k n C : Nat} {f : Addr} {fd : FuncData} {ps : List Str} {Fi : FN} {x : Str} {p pos : Pos} {e : Expr} {es : List Expr} {fa : M (List Rs)}
theorem p_mk (Mm : Mk X.K (c.cls C) f) (G : FnG X.prog X.w X.K X.mg X.base k f fd ps (spF c (n + 1) Fi)) (hgd : X.A.guards = some []) (hr : Room (k + 1) X.A) (hg : Gl X x) (hm : X.mg x = some (.ref (c.cls C))) (hb : Binds X.K fd ps []) (tk : Takes X w.W)
    (ha : PA X (e :: es) (tR c w fa)) (hlen : ∀ π rs π', fa π = .ok rs π' → rs.length = n)
    (hdb : (x == ("__debug__" : Str)) = false := by decide) (he : starEach (e :: es) X.env = (false, eval e X.env) :: starEach es X.env := by rfl) (hpl : (backTo pos (starEach es X.env)).any (·.1) = false := by rfl) :
    PE X (.Call (.Name x p) (e :: es) [] pos) (tE c w (mkF C Fi fa)) :=
  pe_weak (pe_makeG Mm G hgd hr hg hm hb (fun σ => passAt tk σ) ha hdb he hpl) fun σ H Q ⟨F, π, gg, s, po⟩ => by
    refine ⟨F, π, gg, s, ?_⟩
    unfold mkF at po
    cases e0 : fa π with
    | bad => rw [e0] at po; exact po
    | exc C' qs π1 => rw [e0] at po; exact po
    | ok rs π1 =>
      rw [e0] at po
      intro F1 H1 t1 s1 vs hv a dx hna hnd hne
      have po1 := Po.from (show Po c w.W F π σ H (mkR C Fi rs π1) _ from po) t1
      unfold mkR at po1
      cases e1 : vals rs with
      | none => rw [e1] at po1; exact po1.elim
      | some qs =>
        simp only [e1] at po1
        have rv := vals_rps hv e1
        have hql : qs.length = n := by
          have h1 := rps_len rv
          have h2 := rrs_len hv
          have h3 := hlen _ _ _ e0
          omega
        obtain ⟨sr, hno, how⟩ := mk_sr (c := c) (C := C) s1.le hna hnd hne rv
        refine ⟨F1, .loan (.obj C []) :: qs.map .val, by simp [hql], hno, sr, ?_⟩
        cases e2 : Fi (.loan (.obj C []) :: qs.map .val) with
        | bad => rw [e2] at po1; exact po1
        | exc C' us as' =>
          simp only [e2] at po1
          intro F2 H2 d t2 s2 xd
          have gr := mk_gr s1.le hna hnd hne rv t2 s2
          exact po1 F2 H2 d gr.tr (gr.sr s1) xd
        | ok r as' =>
          intro v F2 H2 t2 s2 hrc
          have gr := mk_gr s1.le hna hnd hne rv t2 s2
          rw [e2] at po1
          split at po1
          · rename_i C' us as2 e3
            cases e3
            by_cases hCC : C' = C
            case neg => rw [if_neg hCC] at po1; exact po1.elim
            subst hCC
            rw [if_pos rfl] at po1
            obtain ⟨a2, h1, h2, h3⟩ := s2.ow 0 _ _ rfl rfl
            have ha2 : a2 = a := by simp at h1; exact h1.symm
            subst ha2
            refine ⟨rp_non (show Rp c F2 .non v from hrc), ?_⟩
            refine po1 F2 H2 gr.tr (gr.sr s1) _ ?_
            refine RR.base (t := t1) ?_
            refine ⟨a2, rfl, h2, fun z => ?_, h3, .inl hna⟩
            obtain ⟨u, hu⟩ := own_some s1 z
            rw [hna] at hu; cases hu
          · rename_i e3; cases e3
          · exact po1.elim
end
end PV

namespace PV
open PySem PySem.Spec L2 PyProof.Rows

/-! ### a module's constant, read in a def -/
section
variable {X : Cx} {c : Ctx} {w : Wi} {x : Str} {pos : Pos} {i : Int} {u : Value}
theorem p_gint (hg : Gl X x) (hm : X.mg x = some u) (r : L2.RelV (.int i) u) (hd : (x == ("__debug__" : Str)) = false := by decide) : PE X (.Name x pos) (tE c w (cF (.int i))) :=
  pe_weak (pe_glob (v := .int i) hg hm r hd) (tC_of fun _ => mk_int)
end

/-! ### o.m(e, ..) where the def's own reading asks no guards -/
section
variable {X : Cx} {k : Nat} {C f : Addr} {fd : FuncData} {ps : List Str} {sp : Sp} {E : L2.St → XK} {ta : TE} {t : TA} {m : Str} {apos pos : Pos} {o e : Expr} {es : List Expr}
def tMethS (C : Addr) (m : Str) (sp : Sp) (E : L2.St → XK) (ta : TE) (t : TA) : TE := fun σ H Q => ta σ H fun x H1 => ∃ a dx fs, x = .ref a ∧ H1 a = some (.ins C dx fs) ∧ fs.lookup m = none ∧
  t σ H1 fun vs H2 => sp (x :: vs) H2 Q (E σ)
theorem pe_methG {pl : Sem Bool} (he : PE X o ta) (cl : Cls X.K C) (hm : Meth X.K C m f) (G : FnG X.prog X.w X.K X.mg X.base k f fd ps sp) (hgd : X.A.guards = some []) (hr : Room k X.A) (hb : Binds X.K fd ps []) (hx : ∀ σ, PassesAt (L2.CX X.prog X.w) X σ (E σ)) (ha : PA X (e :: es) t)
    (hst : starEach (e :: es) X.env = (false, eval e X.env) :: starEach es X.env := by rfl) (hpl : (backTo pos (starEach es X.env)).any (·.1) = false := by rfl)
    (ht : eval (.Call (.Attribute o m apos) (e :: es) [] pos) X.env = (do
      let ov ← eval o X.env
      standAt apos.atName
      let (f, first) ← holding [ov] (getMethod ov m pl)
      callWith pos f first (backTo pos (starEach (e :: es) X.env)) (backToKw pos (keywordEach [] X.env))) := by rfl) :
    PE X (.Call (.Attribute o m apos) (e :: es) [] pos) (tMethS C m sp E ta t) := by
  refine ⟨fun pins s σ H Q I h => ?_⟩
  refine PySem.W.methodCall_KW (pl := pl) (thn (he.run pins s σ H _ I h) fun u s1 ⟨x, H1, I1, rx, a, dx, fs, ex, ea, l, q⟩ => ?_) ht
  subst ex
  obtain rfl : u = Value.ref a := rx
  refine getmeth_ok I1 ea cl hm l ?_
  refine PySem.W.callWith_K (first := [.ref a]) (h₀ := X.base) I.ok.mod.kin hm.kp (thn (ha.run pos pins s1 σ H1 _ I1 q) fun us s2 ⟨vs, H2, I2, r, q2⟩ => ⟨I2.kIn, ?_⟩) hst hpl
  exact run_fnG (us := .ref a :: us) (vs := .ref a :: vs) G hgd hr hb (hx σ) I2 (.cons rfl r) q2
theorem pe_methG0 {pl : Sem Bool} (he : PE X o ta) (cl : Cls X.K C) (hm : Meth X.K C m f) (G : FnG X.prog X.w X.K X.mg X.base k f fd ps sp) (hgd : X.A.guards = some []) (hr : Room k X.A) (hb : Binds X.K fd ps []) (hx : ∀ σ, PassesAt (L2.CX X.prog X.w) X σ (E σ))
    (ht : eval (.Call (.Attribute o m apos) [] [] pos) X.env = (do
      let ov ← eval o X.env
      standAt apos.atName
      let (f, first) ← holding [ov] (getMethod ov m pl)
      callWith pos f first (backTo pos (starEach [] X.env)) (backToKw pos (keywordEach [] X.env))) := by rfl) :
    PE X (.Call (.Attribute o m apos) [] [] pos) (tMethS C m sp E ta tNil) := by
  refine ⟨fun pins s σ H Q I h => ?_⟩
  refine PySem.W.methodCall_KW (pl := pl) (thn (he.run pins s σ H _ I h) fun u s1 ⟨x, H1, I1, rx, a, dx, fs, ex, ea, l, q⟩ => ?_) ht
  subst ex
  obtain rfl : u = Value.ref a := rx
  refine getmeth_ok I1 ea cl hm l ?_
  exact PySem.W.callWith_K0 (first := [.ref a]) I1.kIn hm.kp (run_fnG (us := [.ref a]) (vs := [.ref a]) G hgd hr hb (hx σ) I1 (.cons rfl .nil) q)
end

/-! ### o.m(e, ..) as a combinator -/
def methF (C0 : Nat) (Fm : FN) (f : M Rs) (fa : M (List Rs)) : M Rs := fun π => (f π).bind fun r π1 => match rdP π1 r with
  | some (.obj C _) => if C = C0 then (fa π1).bind fun rs π2 => callR Fm (r :: rs) π2 else .bad
  | _ => .bad
theorem zip_none {m : Str} : ∀ {l : List Str} (vs : List V), l.all (fun y => !(m == y)) = true → (l.zip vs).lookup m = none
  | [], _, _ => rfl
  | _ :: _, [], _ => rfl
  | x :: l, v :: vs, h => by
    rw [List.all_cons, Bool.and_eq_true] at h
    rw [List.zip_cons_cons, List.lookup_cons]
    cases z : m == x with
    | true => rw [z] at h; exact absurd h.1 (by decide)
    | false => exact zip_none vs h.2
section
variable {X : Cx} {c : Ctx} {w : Wi} {k n C0 : Nat} {f : Addr} {fd : FuncData} {ps : List Str} {Fm : FN} {m : Str} {apos pos : Pos} {o e : Expr} {es : List Expr} {fo : M Rs} {fa : M (List Rs)}
theorem meth_weak {σ : L2.St} {H : Hp} {Q : VK} (hl : (c.lay C0).all (fun y => !(m == y)) = true) (hlen : ∀ π rs π', fa π = .ok rs π' → rs.length + 1 = n) (h : tE c w (methF C0 Fm fo fa) σ H Q) :
    tMethS (c.cls C0) m (spF c n Fm) (fun σ cls d H' => w.W cls d σ H') (tE c w fo) (tR c w fa) σ H Q := by
  obtain ⟨F, π, gg, s, po⟩ := h
  refine ⟨F, π, gg, s, (Po.split po).mono fun r1 π1 F1 H1 t1 s1 p1 x hx => ?_⟩
  cases e1 : rdP π1 r1 with
  | none => simp only [e1] at p1; exact p1.elim
  | some q =>
    simp only [e1] at p1
    cases q with
    | obj C vs =>
      by_cases z : C = C0
      · subst z
        simp only [if_pos] at p1
        obtain ⟨a, dx, us, rfl, h1, h2⟩ := (hx.rb s1 e1).obj s1.le
        refine ⟨a, dx, _, rfl, h1, zip_none us hl, F1, π1, w.mono _ _ t1.le gg, s1, ?_⟩
        cases e2 : fa π1 with
        | bad => rw [e2] at p1; exact p1
        | exc C qs π2 => rw [e2] at p1; exact p1
        | ok rs π2 =>
          rw [e2] at p1
          intro F2 H2 t2 s2 xs hxs
          refine call_post (π0 := π) (H0 := H) (rs := r1 :: rs) s2 ⟨.ref a, xs, rfl, hx.step t2, hxs.base t1⟩ (hlen _ _ _ e2) (Po.from p1 t2) fun r π3 F3 H3 v t3 kk hr3 => kk v ((hr3.base t2).base t1)
      · simp only [if_neg z] at p1; exact p1.elim
    | _ => exact p1.elim
theorem p_meth {pl : Sem Bool} (he : PE X o (tE c w fo)) (cl : Cls X.K (c.cls C0)) (hm : Meth X.K (c.cls C0) m f) (G : FnG X.prog X.w X.K X.mg X.base k f fd ps (spF c n Fm)) (hgd : X.A.guards = some []) (hr : Room k X.A) (hb : Binds X.K fd ps []) (tk : Takes X w.W) (ha : PA X (e :: es) (tR c w fa))
    (hl : (c.lay C0).all (fun y => !(m == y)) = true) (hlen : ∀ π rs π', fa π = .ok rs π' → rs.length + 1 = n)
    (hst : starEach (e :: es) X.env = (false, eval e X.env) :: starEach es X.env := by rfl) (hpl : (backTo pos (starEach es X.env)).any (·.1) = false := by rfl)
    (ht : eval (.Call (.Attribute o m apos) (e :: es) [] pos) X.env = (do
      let ov ← eval o X.env
      standAt apos.atName
      let (f, first) ← holding [ov] (getMethod ov m pl)
      callWith pos f first (backTo pos (starEach (e :: es) X.env)) (backToKw pos (keywordEach [] X.env))) := by rfl) :
    PE X (.Call (.Attribute o m apos) (e :: es) [] pos) (tE c w (methF C0 Fm fo fa)) :=
  pe_weak (pe_methG (pl := pl) he cl hm G hgd hr hb (fun σ => passAt tk σ) ha hst hpl ht) fun _ _ _ h => meth_weak hl hlen h
theorem tmeth_nil {σ : L2.St} {H : Hp} {Q : VK} {C : Addr} {sp : Sp} {E : L2.St → XK} {ta : TE} (mono : ∀ σ H (Q Q' : VK), (∀ v H, Q v H → Q' v H) → ta σ H Q → ta σ H Q') (h : tMethS C m sp E ta (tR c w nilF) σ H Q) : tMethS C m sp E ta tNil σ H Q :=
  mono σ H _ _ (fun x H1 ⟨a, dx, fs, e1, e2, e3, F, π, gg, s, po⟩ => ⟨a, dx, fs, e1, e2, e3, po F H1 .refl s [] rfl⟩) h
theorem te_mono {fo : M Rs} : ∀ σ H (Q Q' : VK), (∀ v H, Q v H → Q' v H) → tE c w fo σ H Q → tE c w fo σ H Q' := fun σ H Q Q' k ⟨F, π, gg, s, po⟩ =>
  ⟨F, π, gg, s, po.mono fun r π1 F1 H1 t1 s1 p1 v hv => k v H1 (p1 v hv)⟩
theorem p_meth0 {pl : Sem Bool} (he : PE X o (tE c w fo)) (cl : Cls X.K (c.cls C0)) (hm : Meth X.K (c.cls C0) m f) (G : FnG X.prog X.w X.K X.mg X.base k f fd ps (spF c 1 Fm)) (hgd : X.A.guards = some []) (hr : Room k X.A) (hb : Binds X.K fd ps []) (tk : Takes X w.W)
    (hl : (c.lay C0).all (fun y => !(m == y)) = true)
    (ht : eval (.Call (.Attribute o m apos) [] [] pos) X.env = (do
      let ov ← eval o X.env
      standAt apos.atName
      let (f, first) ← holding [ov] (getMethod ov m pl)
      callWith pos f first (backTo pos (starEach [] X.env)) (backToKw pos (keywordEach [] X.env))) := by rfl) :
    PE X (.Call (.Attribute o m apos) [] [] pos) (tE c w (methF C0 Fm fo nilF)) :=
  pe_weak (pe_methG0 (pl := pl) he cl hm G hgd hr hb (fun σ => passAt tk σ) ht) fun _ _ _ h => tmeth_nil te_mono (meth_weak hl (fun _ _ _ e => by cases e; rfl) h)
end
end PV
namespace PV
open PySem PySem.Spec L2 PyProof.Rows
/-! ### f() -/
section
variable {X : Cx} {c : Ctx} {w : Wi} {k : Nat} {f : Addr} {fd : FuncData} {ps : List Str} {sp : Sp} {E : L2.St → XK} {Fn : FN} {x : Str} {p pos : Pos}
theorem pe_call0G (G : FnG X.prog X.w X.K X.mg X.base k f fd ps sp) (hgd : X.A.guards = some []) (hr : Room k X.A) (hg : Gl X x) (hm : X.mg x = some (.ref f)) (hk : PySem.W.keepIn X.K (.ref f) = true) (hb : Binds X.K fd ps []) (hx : ∀ σ, PassesAt (L2.CX X.prog X.w) X σ (E σ))
    (hdb : (x == ("__debug__" : Str)) = false := by decide) : PE X (.Call (.Name x p) [] [] pos) (tCallS sp E tNil) :=
  ⟨fun pins s σ H Q I h => wpAny_Call_Name_kw (ld_glob I hg hm (PySem.W.callWith_K0 I.kIn hk (run_fnG (us := []) (vs := []) G hgd hr hb (hx σ) I .nil h)) hdb)⟩
theorem p_call0 (G : FnG X.prog X.w X.K X.mg X.base k f fd ps (spF c 0 Fn)) (hgd : X.A.guards = some []) (hr : Room k X.A) (hg : Gl X x) (hm : X.mg x = some (.ref f)) (hk : PySem.W.keepIn X.K (.ref f) = true) (hb : Binds X.K fd ps []) (tk : Takes X w.W)
    (hdb : (x == ("__debug__" : Str)) = false := by decide) : PE X (.Call (.Name x p) [] [] pos) (tE c w (callF Fn nilF)) :=
  pe_weak (pe_call0G G hgd hr hg hm hk hb (fun σ => passAt tk σ) hdb) fun σ H Q ⟨F, π, gg, s, po⟩ => by
    refine call_post (rs := []) (vs := []) (π0 := π) (H0 := H) s rfl rfl (show Po c w.W F π σ H (callR Fn [] π) _ from po) fun r π2 F2 H2 v t2 kk hr2 => kk v hr2
end
end PV
namespace PV
open PySem PySem.Spec L2 PyProof.Rows
theorem p_gintE {X : Cx} {c : Ctx} {w : Wi} {x : Str} {pos : Pos} {i : Int} (hg : Gl X x) (h : ∃ t, X.mg x = some (.int i t)) (hd : (x == ("__debug__" : Str)) = false := by decide) : PE X (.Name x pos) (tE c w (cF (.int i))) := by
  obtain ⟨t, h⟩ := h
  exact p_gint hg h ⟨t, rfl⟩ hd
end PV

namespace PV
open PySem PySem.Spec L2 PyProof.Rows

/-! ### short forms: methods and makings -/
/-- class number C0's method m of n parameters (self among them) computes Fn -/
structure Cm (P : Program) (w : World) (K : PySem.W.Frag) (mg : Str → Option Value) (base : Heap) (c : Ctx) (k C0 : Nat) (m : Str) (n : Nat) (Fn : FN) : Prop where
  ex : ∃ (f : Addr) (fd : FuncData) (ps : List Str), FnG P w K mg base k f fd ps (spF c n Fn) ∧ Meth K (c.cls C0) m f ∧ Binds K fd ps []
/-- class number C0, named x, is made by n values (self not among them); its __init__ computes Fi -/
structure Cc (P : Program) (w : World) (K : PySem.W.Frag) (mg : Str → Option Value) (base : Heap) (c : Ctx) (k C0 : Nat) (x : Str) (n : Nat) (Fi : FN) : Prop where
  ex : ∃ (f : Addr) (fd : FuncData) (ps : List Str), FnG P w K mg base k f fd ps (spF c (n + 1) Fi) ∧ Mk K (c.cls C0) f ∧ mg x = some (.ref (c.cls C0)) ∧ Binds K fd ps []
/-- where the method m stands -/
structure AtM (K : PySem.W.Frag) (C : Addr) (m qual : Str) (st : Stmt) (ps : List Str) : Prop where
  ex : ∃ (f : Addr) (fd : FuncData), Fun K m qual st f fd ∧ Meth K C m f ∧ Binds K fd ps []
structure AtI (K : PySem.W.Frag) (mg : Str → Option Value) (C : Addr) (x qual : Str) (st : Stmt) (ps : List Str) : Prop where
  ex : ∃ (f : Addr) (fd : FuncData), Fun K "__init__" qual st f fd ∧ Mk K C f ∧ mg x = some (.ref C) ∧ Binds K fd ps []
section
variable {P : Program} {w : World} {K : PySem.W.Frag} {mg : Str → Option Value} {base : Heap} {c : Ctx} {k C0 : Nat} {x m qual : Str} {st : Stmt} {N ps : List Str} {body : M Fl} {q n : Nat}
theorem cm_of (D : AtM K (c.cls C0) m qual st ps) (S : FnScope N ps (defScope st)) (hn : ps.length = n) (hm : N.length - ps.length = q)
    (hb : ∀ (f : Addr) (cdv : Value) (A : Around) (outer : List Env) (s : Shared) (H : Hp) (E : XK), A.guards = some [] → Room k (A.deeper (envOfC qual (defScope st) s.heap.objs.size f cdv)) →
      PSs (cxOf (L2.CX P w) P w K mg base N qual (defScope st) f cdv A outer s H E) (defBody st) (tS c (wE E) body)) : Cm P w K mg base c (k + 1) C0 m n (fnF q body) := by
  subst hn hm
  obtain ⟨f, fd, F, hm, hb2⟩ := D.ex
  exact ⟨f, fd, ps, fn_okG F S fun cdv A outer s H E hg hr => hb f cdv A outer s H E hg hr, hm, hb2⟩
theorem cc_of (D : AtI K mg (c.cls C0) x qual st ps) (S : FnScope N ps (defScope st)) (hn : ps.length = n + 1) (hm : N.length - ps.length = q)
    (hb : ∀ (f : Addr) (cdv : Value) (A : Around) (outer : List Env) (s : Shared) (H : Hp) (E : XK), A.guards = some [] → Room k (A.deeper (envOfC qual (defScope st) s.heap.objs.size f cdv)) →
      PSs (cxOf (L2.CX P w) P w K mg base N qual (defScope st) f cdv A outer s H E) (defBody st) (tS c (wE E) body)) : Cc P w K mg base c (k + 1) C0 x n (fnF q body) := by
  subst hm
  obtain ⟨f, fd, F, hm, hx, hb2⟩ := D.ex
  exact ⟨f, fd, ps, hn ▸ fn_okG F S fun cdv A outer s H E hg hr => hb f cdv A outer s H E hg hr, hm, hx, hb2⟩
end
section
variable {X : Cx} {c : Ctx} {w : Wi} {j k n C0 : Nat} {Fm : FN} {x m : Str} {p apos pos : Pos} {o e : Expr} {es : List Expr} {fo : M Rs} {fa : M (List Rs)}
theorem p_cm {pl : Sem Bool} (C : Cm X.prog X.w X.K X.mg X.base c j C0 m n Fm) (cl : Cls X.K (c.cls C0)) (hj : j ≤ k) (hgd : X.A.guards = some []) (hr : Room k X.A) (tk : Takes X w.W) (he : PE X o (tE c w fo)) (ha : PA X (e :: es) (tR c w fa))
    (hl : (c.lay C0).all (fun y => !(m == y)) = true) (hlen : ∀ π rs π', fa π = .ok rs π' → rs.length + 1 = n)
    (hst : starEach (e :: es) X.env = (false, eval e X.env) :: starEach es X.env := by rfl) (hpl : (backTo pos (starEach es X.env)).any (·.1) = false := by rfl)
    (ht : eval (.Call (.Attribute o m apos) (e :: es) [] pos) X.env = (do
      let ov ← eval o X.env
      standAt apos.atName
      let (f, first) ← holding [ov] (getMethod ov m pl)
      callWith pos f first (backTo pos (starEach (e :: es) X.env)) (backToKw pos (keywordEach [] X.env))) := by rfl) :
    PE X (.Call (.Attribute o m apos) (e :: es) [] pos) (tE c w (methF C0 Fm fo fa)) := by
  obtain ⟨f, fd, ps, G, hm, hb⟩ := C.ex
  exact p_meth (pl := pl) he cl hm G hgd (hr.mono hj) hb tk ha hl hlen hst hpl ht
theorem p_cm0 {pl : Sem Bool} (C : Cm X.prog X.w X.K X.mg X.base c j C0 m 1 Fm) (cl : Cls X.K (c.cls C0)) (hj : j ≤ k) (hgd : X.A.guards = some []) (hr : Room k X.A) (tk : Takes X w.W) (he : PE X o (tE c w fo))
    (hl : (c.lay C0).all (fun y => !(m == y)) = true)
    (ht : eval (.Call (.Attribute o m apos) [] [] pos) X.env = (do
      let ov ← eval o X.env
      standAt apos.atName
      let (f, first) ← holding [ov] (getMethod ov m pl)
      callWith pos f first (backTo pos (starEach [] X.env)) (backToKw pos (keywordEach [] X.env))) := by rfl) :
    PE X (.Call (.Attribute o m apos) [] [] pos) (tE c w (methF C0 Fm fo nilF)) := by
  obtain ⟨f, fd, ps, G, hm, hb⟩ := C.ex
  exact p_meth0 (pl := pl) he cl hm G hgd (hr.mono hj) hb tk hl ht
theorem p_cc {Fi : FN} (C : Cc X.prog X.w X.K X.mg X.base c j C0 x n Fi) (hj : j ≤ k) (hgd : X.A.guards = some []) (hr : Room (k + 1) X.A) (tk : Takes X w.W) (hg : Gl X x) (ha : PA X (e :: es) (tR c w fa)) (hlen : ∀ π rs π', fa π = .ok rs π' → rs.length = n)
    (hdb : (x == ("__debug__" : Str)) = false := by decide) (he : starEach (e :: es) X.env = (false, eval e X.env) :: starEach es X.env := by rfl) (hpl : (backTo pos (starEach es X.env)).any (·.1) = false := by rfl) :
    PE X (.Call (.Name x p) (e :: es) [] pos) (tE c w (mkF C0 Fi fa)) := by
  obtain ⟨f, fd, ps, G, hm, hx, hb⟩ := C.ex
  exact p_mk hm G hgd (hr.mono (Nat.succ_le_succ hj)) hg hx hb tk ha hlen hdb he hpl
end
end PV

namespace PV
open PySem PySem.Spec L2 PyProof.Rows

/-! ### for k, x in enumerate(xs) -/
def enumP : Nat → List P → List P
  | _, [] => []
  | k, p :: ps => .tup [.int k, p] :: enumP (k + 1) ps
theorem enumP_len : ∀ (k : Nat) (ps : List P), (enumP k ps).length = ps.length
  | _, [] => rfl
  | k, _ :: ps => by unfold enumP; rw [List.length_cons, List.length_cons, enumP_len (k + 1) ps]
theorem enumP_get : ∀ (k : Nat) (ps : List P) (i : Nat) (q : P), (enumP k ps)[i]? = some q → ∃ p, ps[i]? = some p ∧ q = .tup [.int ((k + i : Nat) : Int), p]
  | _, [], i, q, e => by cases i <;> cases e
  | k, p :: ps, 0, q, e => by cases e; exact ⟨p, rfl, rfl⟩
  | k, p :: ps, i + 1, q, e => by
    obtain ⟨p', h1, h2⟩ := enumP_get (k + 1) ps i q e
    exact ⟨p', h1, by rw [h2]; congr 3; omega⟩
def enumR (ps : List P) : M (List P) := fun π => match ps with
  | [.lst qs] => if qs.length ≤ 1000000 then .ok (enumP 0 qs) π else .bad
  | _ => .bad
def enumF (fa : M (List P)) : M (List P) := fun π => (fa π).bind enumR
section
variable {c : Ctx} {F : Hp} {a : Addr} {vs : List V} {ps : List P}
theorem wk_enum (h : SqL c.K F a vs) (r : Rps c F ps vs) : Wk c F (Ite c.K a) (enumP 0 ps) where
  stop := fun G l => ⟨vs, l.sqL h, by rw [enumP_len, rps_len r]; exact Nat.le_refl _⟩
  go := fun i G l hi => ⟨vs, vs[i]'(by rw [enumP_len] at hi; rw [← rps_len r]; exact hi), l.sqL h, List.getElem?_eq_getElem _⟩
  yld := fun i q F1 G x G' l1 l2 e y => by
    obtain ⟨T, y1, rfl, hT, rfl, hy⟩ := y
    obtain ⟨p, e1, rfl⟩ := enumP_get 0 ps i q e
    have rp := Rp.mono l1 _ _ (get_rp r e1 (hy vs ((l1.trans l2).sqL h)))
    have gr := gr_tup (vs := [.int ((i : Nat) : Int), y1]) l2 hT
    refine ⟨_, gr, ?_⟩
    unfold Rp
    refine ⟨T, _, rfl, .of (by rw [upd_same]), rps_cons ?_ (rps_cons (Rp.mono gr.le _ _ rp) rps_nil)⟩
    have z : ((0 + i : Nat) : Int) = (i : Int) := by simp
    rw [z]
    exact mk_int
end
section
variable {X : Cx} {c : Ctx} {w : Wi} {e : Expr} {p pos tpos : Pos} {elts : List Expr} {kk : Nat} {fa : M (List P)}
theorem i_enum (hK : X.K = c.K) (hg : Gl X "enumerate") (hm : X.mg "enumerate" = none) (ha : PA X [e] (tAs c w fa)) (hs : starEach [e] X.env = [(false, eval e X.env)] := by rfl) :
    PI X (.Tuple elts kk tpos) (.Call (.Name "enumerate" p) [e] [] pos) (tI c w (enumF fa)) :=
  pi_weak (pi_enum hg hm ha hs) fun σ H R ⟨F, π, gg, s, po⟩ => by
    refine ⟨F, π, gg, s, (Po.split po).mono fun ps π1 F1 H1 t1 s1 p1 vs hr => ?_⟩
    rw [hK]
    unfold enumR at p1
    split at p1
    · rename_i qs
      obtain ⟨v, us, rfl, h1, h2⟩ := rps_inv hr
      rw [rps_nil_inv h2]
      obtain ⟨a, xs, rfl, h3, h4⟩ := rp_lst h1
      by_cases z : qs.length ≤ 1000000
      · rw [if_pos z] at p1
        exact ⟨a, xs, rfl, .of (s1.le.lst h3), p1 F1 H1 .refl s1 _ (wk_enum (.of h3) h4) (by rw [enumP_len, sizeLine_eq]; omega)⟩
      · rw [if_neg z] at p1; exact p1.elim
    · exact p1.elim
end
end PV

namespace PV
open PySem PySem.Spec L2 PyProof.Rows

/-! ### try: .. with several clauses, each named -/
def wAsM (K : PySem.W.Frag) (Wout : WX) (D : Ends) : List (Value × Nat × (Addr → Value → Option Addr → TS)) → WX
  | [] => Wout
  | (c, i, ts) :: r => wAs K c i ts (wAsM K Wout D r) D
inductive HdsN (X : Cx) : List ExceptHandler → List (Value × Nat × (Addr → Value → Option Addr → TS)) → Prop
  | nil : HdsN X [] []
  | cons {x n : Str} {c : Value} {i : Nat} {ts : Addr → Value → Option Addr → TS} {b₀ : Stmt} {suite : List Stmt} {np pos' : Pos} {hds : List ExceptHandler} {l : List (Value × Nat × (Addr → Value → Option Addr → TS))}
      (hi : X.N[i]? = some n) (hln : X.env.kindOf n = some .local) (hc : Names X x c)
      (hsu : ∀ (a : Addr) (oe : Obj) (cls : Value) (d : Option Addr) (pn : List (Addr × Obj)), Zc cls d oe → (∃ vs, oe.data = .fields vs) → PSs (X.suite a ((a, oe) :: pn)) (b₀ :: suite) (ts a cls d)) (r : HdsN X hds l) :
      HdsN X (.ExceptHandler (some (.Name x np)) (some n) (b₀ :: suite) pos' :: hds) ((c, i, ts) :: l)
section
variable {X : Cx} {body : List Stmt} {h₀ : ExceptHandler} {hds : List ExceptHandler} {l : List (Value × Nat × (Addr → Value → Option Addr → TS))} {pos : Pos} {tb : WX → TS} {Wout : WX}
theorem ps_try_named (hs : X.stack = X.env :: X.outer) (hf : X.env.frame = some X.env.locals) (hN : X.N.Nodup) (tk : Takes X Wout)
    (hb : ∀ (W : WX) (pn : List (Addr × Obj)) (xe : Value → Shared → Prop), Takes (X.tr pn xe) W → PassesOwn (model X.prog X.w) X.A X.env xe → PSs (X.tr pn xe) body (tb W))
    (hh : HdsN X (h₀ :: hds) l) : PS X (.Try body (h₀ :: hds) [] [] pos) (fun D σ H => tb (wAsM X.K Wout D l) D σ H) := by
  refine ⟨fun pins s σ H D I h => ?_⟩
  have ok := I.ok
  have hfr : X.A.frames = some (X.env :: X.outer) := by rw [ok.frames, hs]
  refine wpAny_Try_except ?_
  refine wpAny_mono ((hb (wAsM X.K Wout D l) (X.pn ++ pins) (fun e s₁ => wpAny (model X.prog X.w) X.A (noteFrame e X.env) (fun _ s₂ => wpAny (model X.prog X.w) X.A (setFlight e none) (fun _ s₃ =>
    wpAny (model X.prog X.w) X.A (handleBy e X.env (h₀ :: hds)) (SP X pins D) X.xe s₃) X.xe s₂) X.xe s₁) (fun u s' xx => ?_) PassesOwn.looking).run [] s σ H D (I.toTry _) h) (fun f s1 hsp => ?_) (fun e s1 he => he)
  · -- the catch
    obtain ⟨a, B, sI, pins', σ', H', cls, d, rfl, J', nb, up, sky, na, os, ag, w⟩ := xx
    have J : Inv X pins σ' H' sI := J'.ofTry ok
    have sky' : Sky B (X.env :: X.outer) a (Zc cls d) X.env.locals s'.heap := by rw [← hs]; exact sky
    show wpAny (model X.prog X.w) X.A (noteFrame (.ref a) X.env) _ _ _
    refine Sky.land Zc.steady hfr hf sky' fun h3 fl3 up3 => ?_
    have J3 : Inv X pins σ' H' { s' with heap := h3 } := J.landed nb fl3.1 (up.trans up3) os ag
    obtain ⟨oe3, vs3, he3, hz3, hd3⟩ := fl3.there
    have notFr : ∀ {h : Heap} {o : Obj} {vs : Array Value}, h.FunFrames B (X.env :: X.outer) → h.get? a = some o → o.data = .fields vs → a ∉ frs (X.env :: X.outer) := fun {h o vs} ff e dd hm => by
      obtain ⟨_, o', e', hnf⟩ := ff.mem hm
      rw [e] at e'; cases e'
      exact hnf _ dd
    have nfr := notFr fl3.2.2.1 he3 hd3
    have nL : a ≠ X.env.locals := fun z => nfr (List.mem_filterMap.mpr ⟨X.env, List.mem_cons_self, by rw [hf, z]⟩)
    have nF : a ∉ X.fs := fun hm => by
      obtain ⟨e, he, q⟩ := List.mem_filterMap.mp hm
      exact nfr (List.mem_filterMap.mpr ⟨e, List.mem_cons_of_mem _ he, q⟩)
    have S3 := J3.suite he3 hd3 na nL nF
    have go : ∀ {hds' : List ExceptHandler} {l' : List (Value × Nat × (Addr → Value → Option Addr → TS))}, HdsN X hds' l' → wAsM X.K Wout D l' cls d σ' H' →
        wpAny (model X.prog X.w) X.A (handleBy (.ref a) X.env hds') (SP X pins D) X.xe { s' with heap := h3 } := by
      intro hds' l' hk
      induction hk with
      | nil =>
        intro w
        refine wpAny_handleBy_nil ?_
        obtain ⟨k1, k2, k3, oe, vs, T, oT, ts', he, hz, hd, h1, hr⟩ := id fl3
        unfold PySem.passOn
        refine wpAny_bind (wpAny_field he hd h1 ?_)
        rw [if_neg (show ¬ ((Value.ref T == Value.none) = true) from by simp)]
        have fin : wpAny (model X.prog X.w) X.A (setFlight (.ref a) X.env.frame) (fun _ s4 => wpAny (model X.prog X.w) X.A (throw (.ref a) : Sem Flow) (SP X pins D) X.xe s4) X.xe { s' with heap := h3 } := by
          rw [hf]
          refine HandSPX.setFlight_upZ fl3 fun h4 hh4 up4 => wpAny_throw (tk _ _ ?_)
          exact ⟨a, B, sI, pins, σ', H', cls, d, rfl, J, nb, (up.trans up3).trans up4, .inr (.inr (by rw [hs]; exact hh4)), na, os, ag, w⟩
        first
          | exact wpAny_bind (wpAny_pure (wpAny_bind fin))
          | exact wpAny_bind fin
      | @cons x n c i ts b₀ suite np pos' hds2 l2 hi hln hc hsu r ih =>
        intro w
        have hloc : Loc X.env.scope n := .inl hln
        obtain ⟨b, hb1, hyes, hno⟩ := w
        refine wpAny_handleBy_cons (codeAny_handlers_test ?_) (by intro q; cases q)
        have LT : PySem.W.Looks (model X.prog X.w) h3 (typeOf (.ref a)) cls := fun A Q E s k q => wpAny_typeOf_ref (k _ _ he3) (by rw [hz3.1]; exact q)
        have LM := PySem.W.exm_one (M := model X.prog X.w) (J3.kIn) LT hb1
        have test : ∀ {Q : Value → Shared → Prop} {E : Value → Shared → Prop}, Q c { s' with heap := h3 } → wpAny (model X.prog X.w) (X.A.mark (some (.ref a))) (eval (.Name x np) X.env) Q E { s' with heap := h3 } := fun {Q E} q => by
          obtain ⟨hg, hdbg, hm | ⟨hm, hv, hnn⟩⟩ := hc
          · exact ld_glob (X := X.suite a ((a, oe3) :: (X.pn ++ pins))) S3 hg hm q hdbg
          · exact ld_blt (X := X.suite a ((a, oe3) :: (X.pn ++ pins))) S3 hg hm hv q hnn hdbg
        refine test (LM.here ?_)
        cases b with
        | true =>
          refine codeAny_handlers_suite_as ?_
          refine HandSPX.lands_againZ fl3 fun h4 fl4 up4 => ?_
          have J4 : Inv X pins σ' H' { s' with heap := h4 } := J.landed nb fl4.1 ((up.trans up3).trans up4) os ag
          obtain ⟨oe4, vs4, he4, hz4, hd4⟩ := fl4.there
          have S4 := J4.suite he4 hd4 na nL nF
          refine L2.store_ok (X := X.suite a ((a, oe4) :: (X.pn ++ pins))) (v := .ref a) S4 hN hi hloc rfl (fun s5 S5 => ?_) (.inr hln)
          refine wpAny_mono ((hsu a oe4 cls d (X.pn ++ pins) hz4 ⟨_, hd4⟩).run [] s5 _ H' _ S5 (hyes rfl a na)) (fun f s6 hsp => ?_) (fun _ _ z => False.elim z)
          have end_ : ∀ {σ6 : L2.St} {H6 : Hp} {Q : Shared → Prop}, Inv (X.suite a ((a, oe4) :: (X.pn ++ pins))) [] σ6 H6 s6 → (∀ s7, Inv X pins (σ6.set i none) H6 s7 → Q s7) →
              wpAny (model X.prog X.w) X.A (do bindName X.env n .none; unbindBehindTheSuite X.env n pos') (fun _ s7 => Q s7) X.xe s6 := fun {σ6 H6 Q} S6 hq => gone_ok (S6.unsuite ok) hN hi hln hq
          cases f with
          | next =>
            obtain ⟨σ6, H6, S6, q6⟩ := hsp
            exact end_ S6 fun s7 J7 => ⟨_, _, J7, q6⟩
          | brk =>
            obtain ⟨σ6, H6, S6, q6⟩ := hsp
            exact end_ S6 fun s7 J7 => ⟨_, _, J7, q6⟩
          | cont =>
            obtain ⟨σ6, H6, S6, q6⟩ := hsp
            exact end_ S6 fun s7 J7 => ⟨_, _, J7, q6⟩
          | ret u =>
            obtain ⟨v6, σ6, H6, S6, r6, q6⟩ := hsp
            exact end_ S6 fun s7 J7 => ⟨_, _, _, J7, r6, q6⟩
        | false =>
          show wpAny _ X.A (handleBy (.ref a) X.env hds2) _ _ _
          exact ih (hno rfl)
    exact go hh w
  · cases f with
    | next =>
      obtain ⟨σ', H', J', q⟩ := hsp
      exact wpAny_execs_nil ⟨σ', H', J'.ofTry ok, q⟩
    | brk =>
      obtain ⟨σ', H', J', q⟩ := hsp
      exact ⟨σ', H', J'.ofTry ok, q⟩
    | cont =>
      obtain ⟨σ', H', J', q⟩ := hsp
      exact ⟨σ', H', J'.ofTry ok, q⟩
    | ret u =>
      obtain ⟨v, σ', H', J', r, q⟩ := hsp
      exact ⟨v, σ', H', J'.ofTry ok, r, q⟩
end
/-! as a combinator: clauses (i, C, suite) -/
def hndsR (sb : Nat → Nat → Bool) (C' : Nat) (ps : List P) (π1 : En) : List (Nat × Nat × (Nat → List P → M Fl)) → Out Fl
  | [] => .exc C' ps π1
  | (i, C, fh) :: r => if sb C' C = true then (if notL π1 i = true then hndR i (fh C' ps (π1.set i .no)) else .bad) else hndsR sb C' ps π1 r
def tryMF (sb : Nat → Nat → Bool) (m : Nat) (fb : M Fl) (hs : List (Nat × Nat × (Nat → List P → M Fl))) : M Fl := fun π => match fb π with
  | .exc C' ps π1 => if C' < m then hndsR sb C' ps π1 hs else .bad
  | o => o
inductive HdsP (X : Cx) (c : Ctx) (w : Ws) (sb : Nat → Nat → Bool) (m : Nat) : List ExceptHandler → List (Nat × Nat × (Nat → List P → M Fl)) → Prop
  | nil : HdsP X c w sb m [] []
  | cons {x n : Str} {i C : Nat} {fh : Nat → List P → M Fl} {b₀ : Stmt} {suite : List Stmt} {np pos' : Pos} {hds : List ExceptHandler} {l : List (Nat × Nat × (Nat → List P → M Fl))}
      (hi : X.N[i]? = some n) (hln : X.env.kindOf n = some .local) (hcn : Names X x (.ref (c.cls C)))
      (hex : ∀ C', C' < m → PySem.W.exmOne X.K (.ref (c.cls C')) (.ref (c.cls C)) = some (sb C' C))
      (hsu : ∀ (C' : Nat) (ps : List P) (a : Addr) (oe : Obj) (d : Option Addr) (pn : List (Addr × Obj)), C' < m → sb C' C = true → Zc (.ref (c.cls C')) d oe → (∃ vs, oe.data = .fields vs) → PSs (X.suite a ((a, oe) :: pn)) (b₀ :: suite) (tX c (wx c w i a d C' ps) w (fh C' ps)))
      (r : HdsP X c w sb m hds l) : HdsP X c w sb m (.ExceptHandler (some (.Name x np)) (some n) (b₀ :: suite) pos' :: hds) ((i, C, fh) :: l)
def tsOf (c : Ctx) (w : Ws) (sb : Nat → Nat → Bool) (m : Nat) : List (Nat × Nat × (Nat → List P → M Fl)) → List (Value × Nat × (Addr → Value → Option Addr → TS))
  | [] => []
  | (i, C, fh) :: r => (.ref (c.cls C), i, fun a cls d D σ H => ∃ C' ps, C' < m ∧ sb C' C = true ∧ cls = .ref (c.cls C') ∧ tX c (wx c w i a d C' ps) w (fh C' ps) D σ H) :: tsOf c w sb m r
theorem hdsN_of {X : Cx} {c : Ctx} {w : Ws} {sb : Nat → Nat → Bool} {m : Nat} {hds : List ExceptHandler} {l : List (Nat × Nat × (Nat → List P → M Fl))} (h : HdsP X c w sb m hds l) : HdsN X hds (tsOf c w sb m l) := by
  induction h with
  | nil => exact .nil
  | cons hi hln hcn hex hsu r ih =>
    refine .cons hi hln hcn (fun a oe cls d pn hz hv => ⟨fun pins s σ H D I ⟨C', ps, h1, h2, h3, h4⟩ => ?_⟩) ih
    subst h3
    exact (hsu C' ps a oe d pn h1 h2 hz hv).run pins s σ H D I h4
theorem s_tryM {X : Cx} {c : Ctx} {w : Ws} {m : Nat} {body : List Stmt} {h₀ : ExceptHandler} {hds : List ExceptHandler} {pos : Pos} {sb : Nat → Nat → Bool} {fb : M Fl} {l : List (Nat × Nat × (Nat → List P → M Fl))}
    (hs : X.stack = X.env :: X.outer) (hf : X.env.frame = some X.env.locals) (hN : X.N.Nodup) (tk : Takes X w.W)
    (hb : ∀ (W : WX) (pn : List (Addr × Obj)) (xe : Value → Shared → Prop), Takes (X.tr pn xe) W → PassesOwn (model X.prog X.w) X.A X.env xe → PSs (X.tr pn xe) body (tS c ⟨W, w.g, w.mono⟩ fb))
    (hh : HdsP X c w sb m (h₀ :: hds) l) : PS X (.Try body (h₀ :: hds) [] [] pos) (tS c w (tryMF sb m fb l)) := by
  refine ps_weak (ps_try_named (tb := fun W => tS c ⟨W, w.g, w.mono⟩ fb) (Wout := w.W) hs hf hN tk hb (hdsN_of hh)) fun D σ H ⟨F, π, gg, s, po⟩ => ?_
  refine ⟨F, π, gg, s, ?_⟩
  unfold tryMF at po
  cases e0 : fb π with
  | bad => rw [e0] at po; exact po
  | ok fl π1 => rw [e0] at po; exact po
  | exc C' ps π1 =>
    rw [e0] at po
    intro F' σ' H' d t s' xd
    by_cases hm : C' < m
    case neg => simp only [if_neg hm] at po; exact po.elim
    simp only [if_pos hm] at po
    have go : ∀ {hds' : List ExceptHandler} {l' : List (Nat × Nat × (Nat → List P → M Fl))}, HdsP X c w sb m hds' l' → PoS c w.W F π σ H (hndsR sb C' ps π1 l') (flK c D π σ H) → wAsM X.K w.W D (tsOf c w sb m l') (.ref (c.cls C')) d σ' H' := by
      intro hds' l' hk
      induction hk with
      | nil => exact fun po => po F' σ' H' d t s' xd
      | @cons x n i C fh b₀ suite np pos' hds2 l2 hi hln hcn hex hsu r ih =>
        intro po
        refine ⟨sb C' C, hex C' hm, fun hb a ha => ⟨C', ps, hm, hb, rfl, ?_⟩, fun hb => ih ?_⟩
        · simp only [hndsR, if_pos hb] at po
          by_cases hl : notL π1 i = true
          case neg => simp only [if_neg hl] at po; exact po.elim
          simp only [if_pos hl] at po
          obtain ⟨s1, t1⟩ := s'.noset hl (some (.ref a))
          have T1 := t1 _ _ _ _ t
          have hσ : i < σ'.length := by rw [← s'.len]; exact (notL_at hl).1
          refine ⟨F', π1.set i .no, ⟨w.mono _ _ t.le gg, by rw [List.getElem?_set_self hσ], xd⟩, w.mono _ _ t.le gg, s1, ?_⟩
          cases e2 : fh C' ps (π1.set i .no) with
          | bad => rw [e2] at po; exact po
          | exc C2 qs π2 => rw [e2] at po; exact po.elim
          | ok fl π2 =>
            rw [e2] at po
            unfold hndR at po
            by_cases hl2 : notL π2 i = true
            case neg => simp only [if_neg hl2] at po; exact po.elim
            simp only [if_pos hl2] at po
            intro F2 σ2 H2 t2 s2
            obtain ⟨s3, t3⟩ := s2.noset hl2 none
            have K := po F2 _ H2 (t3 _ _ _ _ (T1.trans t2)) s3
            cases fl with
            | nx => exact K
            | bk => exact K
            | ct => exact K
            | rt r =>
              intro v hv
              refine K v ?_
              cases r with
              | val p => exact hv
              | own o =>
                obtain ⟨a2, e1, h1, h2, h3, h4⟩ := hv
                refine ⟨a2, e1, h1, fun ⟨j, o', q1, q2⟩ => h2 ?_, h3, ?_⟩
                · by_cases z : j = i
                  · subst z
                    rw [List.getElem?_set_self (notL_at hl2).1] at q1
                    cases q1
                  · rw [List.getElem?_set_ne (Ne.symm z)] at q1 q2
                    exact ⟨j, o', q1, q2⟩
                · exact Fr0.back T1 h4
        · simpa only [hndsR, hb, Bool.false_eq_true, if_false] using po
    exact go hh po
/-! a first statement of a suite: name = e -/
section
variable {X : Cx} {c : Ctx} {w' : Wi} {w : Ws} {e : Expr} {pos pos' : Pos} {fe : M Rs}
theorem x_set {i : Nat} {x : Str} (hW : w'.W = fun _ _ _ _ => False) (hN : X.N.Nodup) (hi : X.N[i]? = some x) (hx : Loc X.env.scope x) (he : PE X e (tE c w' fe)) (hs : swapsWith e (some (.Name x pos')) pos.line X.env = pure false := by rfl)
    (hf : X.fn x = true ∨ X.env.scope.names.lookup x = some .local := by first | exact .inl rfl | exact .inr rfl | assumption) :
    PS X (.Assign [.Name x pos'] e pos) (tX c w' w (setF i fe)) :=
  ps_weak (ps_set hN hi hx he hs hf) fun D σ H ⟨F, π, gx, gg, s, po⟩ => by
    refine ⟨F, π, gx, s, ?_⟩
    rw [hW]
    unfold setF at po
    cases e0 : fe π with
    | bad => rw [e0] at po; exact po
    | exc C ps π1 => rw [e0] at po; exact fun F' H' d t s => po F' σ H' d t s
    | ok r π1 =>
      rw [e0] at po
      intro F1 H1 t s1 v hr
      obtain ⟨π', k⟩ := set_post s1 hr t po
      exact k
end
end PV

namespace PV
open PySem PySem.Spec L2 PyProof.Rows

/-! ### own classes: isinstance -/
structure OwnC (K : PySem.W.Frag) (C : Addr) : Prop where
  cl : Cls K C
  ha : PySem.W.findIn K (.ref C) "__class__" = some (some (.builtin "object.__class__"))
  hn : PySem.W.specialIn K (.builtin "object.__class__") "__get__" = some (some (.builtin "getset_descriptor.__get__"))
  htk : PySem.W.takesIn K (.builtin "object.__class__") = some true
  hm : PySem.W.mroIn K C (.type "object") = some true
  hc : (PySem.W.clsIn K C).isSome = true
  ty : PySem.W.typeIn K (.ref C) = some (.type "type")
def tyNs : List String := ["NoneType", "bool", "int", "str", "tuple", "list"]
def isTyV : Value → Bool
  | .type _ => true
  | _ => false
theorem mro_ty : ∀ t ∈ tyNs, ∃ l, PySem.fastBuiltinMro t = some l ∧ l.all isTyV = true := by
  intro t h
  have key : (match PySem.fastBuiltinMro t with | some l => l.all isTyV | none => false) = true := by
    revert t
    decide +kernel
  cases q : PySem.fastBuiltinMro t with
  | none => rw [q] at key; cases key
  | some l => rw [q] at key; exact ⟨l, rfl, key⟩
theorem no_ref {C : Addr} : ∀ {l : List Value}, l.all isTyV = true → l.contains (.ref C) = false
  | [], _ => rfl
  | v :: l, h => by
    rw [List.all_cons, Bool.and_eq_true] at h
    rw [List.contains_cons, no_ref h.2, Bool.or_false]
    cases v <;> first | rfl | (simp [isTyV] at h) | (exact beq_eq_false_iff_ne.mpr (fun z => nomatch z))
theorem sub_ty {K : PySem.W.Frag} {C : Addr} {t : String} (h : t ∈ tyNs) : PySem.W.subIn K (.type t) (.ref C) = some false := by
  obtain ⟨l, h1, h2⟩ := mro_ty t h
  show (PySem.fastBuiltinMro t).map (·.contains (.ref C)) = some false
  rw [h1, Option.map_some, no_ref h2]
theorem kit_own_ty {K : PySem.W.Frag} {C : Addr} {t : String} (O : OwnC K C) (h : t ∈ tyNs) : PySem.W.kitOne K (.type t) (.ref C) = some false := by
  unfold PySem.W.kitOne PySem.W.kitCls
  rw [if_neg (fun z => by have := eq_of_beq z; cases this)]
  simp only [O.hc, O.ty, Bool.true_and, beq_self_eq_true, if_true]
  exact sub_ty h
theorem kit_own_self {K : PySem.W.Frag} {C : Addr} : PySem.W.kitOne K (.ref C) (.ref C) = some true := by
  unfold PySem.W.kitOne
  rw [if_pos (beq_self_eq_true _)]
theorem OwnC.tyx {c : Ctx} {H : Hp} {C : Nat} {ps : List P} {v : V} (O : OwnC c.K (c.cls C)) (r : Rp c H (.obj C ps) v) : TyX c.K H v (.ref (c.cls C)) := by
  obtain ⟨a, dx, vs, rfl, h, _⟩ := rp_obj r
  exact .base (.ins h O.cl O.ha O.hn O.htk O.hm)
def isiCP (C0 : Nat) : List P → Option Rv
  | [.obj C _, .cls C'] => if C = C0 ∧ C' = C0 then ib true else none
  | [p, .cls C'] => if C' = C0 ∧ (tyName p).isSome = true then ib false else none
  | _ => none
theorem v_isiC {c : Ctx} {C0 : Nat} (O : OwnC c.K (c.cls C0)) : CalV c (rIsi c.K) (isiCP C0) := by
  intro F H ps xs res Q l h e k
  have two : ∃ p C', ps = [p, .cls C'] ∧ C' = C0 ∧ ((∃ qs, p = .obj C0 qs ∧ res = .val (.bl true)) ∨ ((tyName p).isSome = true ∧ res = .val (.bl false))) := by
    unfold isiCP at e
    split at e
    · split at e
      · rename_i h; cases e; obtain ⟨h1, h2⟩ := h; subst h1 h2; exact ⟨_, _, rfl, rfl, .inl ⟨_, rfl, rfl⟩⟩
      · cases e
    · split at e
      · rename_i h; cases e; exact ⟨_, _, rfl, h.1, .inr ⟨h.2, rfl⟩⟩
      · cases e
    · cases e
  obtain ⟨p, C', rfl, hC, two⟩ := two
  subst hC
  obtain ⟨x, y, rfl, hx, hy⟩ := rbs2 h
  have ry := rp_cls (hy.rpH l)
  subst ry
  have rx := hx.rpH l
  rcases two with ⟨qs, rfl, rfl⟩ | ⟨ht, rfl⟩
  · exact ⟨x, _, _, _, true, rfl, .own _, O.tyx rx, kit_own_self, give l k mk_bl⟩
  · obtain ⟨t, ht⟩ := Option.isSome_iff_exists.mp ht
    exact ⟨x, _, _, _, false, rfl, .own _, tyx_of rx ht, kit_own_ty O (tyName_mem ht), give l k mk_bl⟩
section
variable {X : Cx} {c : Ctx} {w : Wi} {x : Str} {pos : Pos} {C : Nat}
/-- a class's name, a def's name -/
theorem p_clsE (hg : Gl X x) (hm : X.mg x = some (.ref (c.cls C))) (hd : (x == ("__debug__" : Str)) = false := by decide) : PE X (.Name x pos) (tE c w (cF (.cls C))) :=
  pe_weak (pe_glob (v := .ref (c.cls C)) hg hm rfl hd) (tC_of fun _ => mk_cls)
theorem p_fnE {f : Nat} (hg : Gl X x) (hm : X.mg x = some (.ref (c.fna f))) (hd : (x == ("__debug__" : Str)) = false := by decide) : PE X (.Name x pos) (tE c w (cF (.fn f))) :=
  pe_weak (pe_glob (v := .ref (c.fna f)) hg hm rfl hd) (tC_of fun _ => mk_fn)
end
/-! ### .. == and != by their own __eq__ -/
section
open PySem.W
variable {prog : Program} {w : World} {A : Around} {E : Value → Shared → Prop} {s : Shared} {K : Frag} {x C L f : Addr} {h₀ : Heap} {m : Str → Option Value} {ox : Obj} {od : Option Obj} {name : Str} {b tb : Value}
theorem bound_blt {M : Model} {args : List Value} {T nm : String} {id : String} {Q : Option Value → Shared → Prop} (X : K.In s.heap) (I : InstAt s.heap x ox C od) (hs : findIn K (.ref C) name = some (some (.builtin id))) (S : Slot T nm id)
    (h : wpAny M A (call (.builtin id) (.ref x :: args)) (fun v => Q (some v)) E s) : wpAny M A (callSpecialIfBound? (.ref x) name args) Q E s := by
  simp only [callSpecialIfBound?, bindSpecialIfBound?]
  refine wpAny_holding (wpAny_bind (wpAny_bind (wpAny_bind (I.type.here ((looks_findIn X hs).here ?_)))))
  refine wpAny_bind (wpAny_askSetting (wpAny_ite ?_))
  have fin : wpAny M A (call (.builtin id) ([.ref x] ++ args) >>= fun v => pure (some v)) Q E s := wpAny_bind (wpAny_mono h (fun v s' h' => wpAny_pure h') fun _ _ h' => h')
  simp only [S.bind]
  split
  · exact wpAny_bind (wpAny_pure (wpAny_pure fin))
  · exact wpAny_tryCatch (wpAny_bind (wpAny_pure (wpAny_pure fin)))
theorem check_obj {M : Model} {id n : String} {rest : List Value} {Q : Unit → Shared → Prop} (X : K.In s.heap) (I : InstAt s.heap x ox C od) (hm : mroIn K C (.type "object") = some true) (hk : builtinKind id = some .slot) (hs : splitId id = some ("object", n))
    (ha : argsOk id ⟨.ref x :: rest, []⟩) (hq : Q () s) : wpAny M A (checkBuiltinCall id ⟨.ref x :: rest, []⟩) Q E s := by
  simp only [checkBuiltinCall, hk, hs]
  refine wpAny_bind ?_
  unfold isInstance
  refine wpAny_bind (I.type.here ?_)
  refine (looks_mroIn X hm).here ?_
  cases hsig : Manifest.signature? id with
  | none => exact wpAny_pure hq
  | some sig =>
    simp only [argsOk, hsig] at ha
    have h2 : Bind.checkArgs id sig ⟨.ref x :: rest, []⟩ = pure () := ha
    show wpAny M A (Bind.checkArgs id sig ⟨.ref x :: rest, []⟩) Q E _
    rw [h2]; exact wpAny_pure hq
theorem ne_entry (X : K.In s.heap) (I : InstAt s.heap x ox C od) (hs : findIn K (.ref C) "__eq__" = some (some (.ref f))) (hf : isFn K (.ref f) = true) (hu : A.units < cLine) {Q : Fin → Shared → Prop}
    (hcall : wpAny (model prog w) A (call (.ref f) [.ref x, b]) (fun v s' => ∃ r, v = .bool r ∧ Q (.done (.ret (.bool (!r)))) s') E s) :
    wpAny (model prog w) A (Builtin.«object.__ne__» ⟨[.ref x, b], []⟩) Q E s := by
  unfold Builtin.«object.__ne__»
  repeat (first
    | with_reducible refine wpAny_cRoomFor hu ?_
    | (refine wpAny_bind (m := callSpecialIfBound? (.ref x) (Str.ofString "__eq__") [b])
        (ifBound_K X I hs hf (wpAny_mono hcall (fun r s' hr => by
          obtain ⟨b, rfl, hq⟩ := hr
          repeat (first | exact hq | exact wpAny_pure hq | exact wpAny_truthy_bool hq | (refine wpAny_bind (m := truthy (.bool _)) (wpAny_truthy_bool ?_)) | wp_step)) fun _ _ e => e)))
    | wp_step)
theorem ne_K {Q : Value → Shared → Prop} (hu : A.units + 1 < cLine) (X : K.In s.heap) (I : InstAt s.heap x ox C od) (hb : Looks (model prog w) s.heap (typeOf b) tb) (hn : notFirst K C tb = true) (hm : mroIn K C (.type "object") = some true)
    (hne : findIn K (.ref C) "__ne__" = some (some (.builtin "object.__ne__"))) (hs : findIn K (.ref C) "__eq__" = some (some (.ref f))) (hf : isFn K (.ref f) = true)
    (h : wpAny (model prog w) A.in1 (call (.ref f) [.ref x, b]) (fun v s' => ∃ r, v = .bool r ∧ Q (.bool (!r)) s') E s) : wpAny (model prog w) A (richCompare .NotEq (.ref x) b) Q E s := by
  have one : wpAny (model prog w) A (tryCompare (.ref x) "__ne__" b) (fun r s' => ∃ v, r = some v ∧ Q v s') E s := by
    unfold tryCompare
    refine wpAny_bind (bound_blt X I hne F.cmp_object.ne (wpAny_call (codeAny_call_builtin F.cmp_object.ne.plain F.cmpEntry_ne
      (check_obj X I hm F.cmpKind_ne F.cmpSplit_ne (F.cmpArgs_ne _ _) (ne_entry (A := A.in1) X I hs hf hu (wpAny_mono h (fun v s' hv => ?_) fun _ _ e => e))))))
    obtain ⟨r, rfl, hq⟩ := hv
    first | exact ⟨r, rfl, wpAny_pure ⟨_, rfl, hq⟩⟩ | exact ⟨r, rfl, wpAny_pure (wpAny_pure ⟨_, rfl, hq⟩)⟩
  unfold richCompare
  simp only [oneThing_ref]
  refine wpAny_holding (wpAny_bind (wpAny_cRoomFor (Nat.lt_of_succ_lt hu) ?_))
  simp only [show cmpInfo .NotEq = (("!=", "__ne__", "__ne__") : String × Str × Str) from rfl]
  refine wpAny_bind (I.type.here (wpAny_bind (hb.here ?_)))
  split
  · rename_i q
    have e : subIn K tb (.ref C) = some false := by
      rcases Bool.or_eq_true_iff.mp hn with e | e
      · rw [beq_iff_eq.mp e] at q; simp at q
      · exact beq_iff_eq.mp e
    refine wpAny_bind ((looks_subIn X e).here ?_)
    simp only [Bool.false_eq_true, if_false]
    refine wpAny_bind (wpAny_mono one (fun r s' z => ?_) fun _ _ e => e)
    obtain ⟨v, rfl, hq⟩ := z
    exact wpAny_pure hq
  · refine wpAny_bind (wpAny_pure ?_)
    simp only [Bool.false_eq_true, if_false]
    refine wpAny_bind (wpAny_mono one (fun r s' z => ?_) fun _ _ e => e)
    obtain ⟨v, rfl, hq⟩ := z
    exact wpAny_pure hq
end
end PV

namespace PV
open PySem PySem.Spec L2 PyProof.Rows

/-! ### a == b, a != b by an own __eq__ -/
theorem run_fnA {X : Cx} {k : Nat} {f : Addr} {fd : FuncData} {ps : List Str} {sp : Sp} {A : Around} {pins : List (Addr × Obj)} {σ : L2.St} {H : Hp} {s : Shared} {Q : VK} {us : List Value} {vs : List V} (G : FnG X.prog X.w X.K X.mg X.base k f fd ps sp)
    (hfr : A.frames = X.A.frames) (hg : A.guards = some []) (hr : Room k A) (hb : Binds X.K fd ps [])
    (I : L2.Inv X pins σ H s) (r : Vals vs us) (h : sp vs H Q (fun _ _ _ => False)) : wpAny (model X.prog X.w) A (call (.ref f) us) (L2.EP X pins σ Q) X.xe s := by
  have b := hb s us I.kIn (by rw [List.append_nil, ← r.length]; exact G.len _ _ _ _ h)
  rw [List.append_nil] at b
  have e0 : L2.Env0 X.prog X.w X.K X.mg X.base A X.stack s H := by
    have e := I.env0
    exact ⟨by rw [hfr]; exact e.frames, e.mod, e.bs, e.bsz, e.funs, e.frf, e.hok, e.bare⟩
  refine wpAny_call (codeAny_mono (G.run A X.stack s H ⟨us, []⟩ us vs Q _ hg hr e0 b r h) fun r s' hq => ?_)
  cases r with
  | error e =>
    obtain ⟨_, _, _, _, _, _, _, _, _, _, _, _, z⟩ := hq
    exact z.elim
  | ok fl => cases fl <;> first | exact I.after hq | exact False.elim hq
def rOE (K : PySem.W.Frag) (C : Addr) (sp : Sp) (neg : Bool) : R2 := fun x y H Q => ∃ a dx fs t, x = .ref a ∧ H a = some (.ins C dx fs) ∧ TyX K H y t ∧ PySem.W.notFirst K C t = true ∧
  sp [x, y] H (fun v H2 => ∃ b, v = .bl b ∧ Q (.bl (if neg = true then !b else b)) H2) (fun _ _ _ => False)
section
variable {X : Cx} {k : Nat} {f C : Addr} {fd : FuncData} {ps : List Str} {sp : Sp}
theorem op_oeq (G : FnG X.prog X.w X.K X.mg X.base k f fd ps sp) (hm : Meth X.K C "__eq__" f) (hb : Binds X.K fd ps []) (hgd : X.A.guards = some []) (hr : Room k X.A) : OpR X (compareOp .Eq) (rOE X.K C sp false) := by
  intro pins s σ H x y u v Q I rx ry ⟨a, dx, fs, t, ex, ha, ty, hn, hs⟩
  subst ex
  cases rx
  obtain ⟨P, Z, p, _⟩ := kit_of I ry ty
  obtain ⟨mA, J, _⟩ := ins_get I.hok ha
  obtain ⟨od, J, _⟩ := J.look
  obtain ⟨m, hF⟩ := I.fr
  show wpAny (model X.prog X.w) X.A (richCompare .Eq (.ref a) v) (EP X pins σ Q) X.xe s
  refine PySem.W.cmp_K (op := .Eq) (tb := t) hr.units0 hF I.ok.mod.kin J (Z.ty _ _ I.kIn p) hn hm.at_ hm.fn ?_
  refine wpAny_mono (run_fnA G rfl hgd hr hb I (vs := [.ref a, y]) (us := [.ref a, v]) (.cons rfl (.cons ry .nil)) hs) (fun r s' q => ?_) fun _ _ x => x
  obtain ⟨v', H', I', rv, b, e, q⟩ := q
  subst e
  cases rv
  exact ⟨.bl b, H', I', rfl, q⟩
theorem op_one (G : FnG X.prog X.w X.K X.mg X.base k f fd ps sp) (hm : Meth X.K C "__eq__" f) (hne : PySem.W.findIn X.K (.ref C) "__ne__" = some (some (.builtin "object.__ne__"))) (hmr : PySem.W.mroIn X.K C (.type "object") = some true) (hb : Binds X.K fd ps []) (hgd : X.A.guards = some []) (hr : Room (k + 1) X.A) : OpR X (compareOp .NotEq) (rOE X.K C sp true) := by
  intro pins s σ H x y u v Q I rx ry ⟨a, dx, fs, t, ex, ha, ty, hn, hs⟩
  subst ex
  cases rx
  obtain ⟨P, Z, p, _⟩ := kit_of I ry ty
  obtain ⟨mA, J, _⟩ := ins_get I.hok ha
  obtain ⟨od, J, _⟩ := J.look
  show wpAny (model X.prog X.w) X.A (richCompare .NotEq (.ref a) v) (EP X pins σ Q) X.xe s
  refine ne_K (tb := t) hr.in1.units0 I.kIn J (Z.ty _ _ I.kIn p) hn hmr hne hm.at_ hm.fn ?_
  refine wpAny_mono (run_fnA (A := X.A.in1) G rfl hgd hr.in1 hb I (vs := [.ref a, y]) (us := [.ref a, v]) (.cons rfl (.cons ry .nil)) hs) (fun r s' q => ?_) fun _ _ x => x
  obtain ⟨v', H', I', rv, b, e, q⟩ := q
  subst e
  cases rv
  exact ⟨b, rfl, .bl (!b), H', I', rfl, q⟩
end
/-- operands an own == answers for -/
def cmpOk (C0 : Nat) : P → Bool
  | .obj C _ => C == C0
  | q => (tyName q).isSome
def oeR (C0 : Nat) (Fn : FN) (neg : Bool) (p q : P) : M Rs := fun π => match p with
  | .obj C vs => if C = C0 ∧ cmpOk C0 q = true then (match Fn [.val (.obj C vs), .val q] with
      | .ok (.val (.bl b)) _ => .ok (.val (.bl (if neg = true then !b else b))) π
      | _ => .bad) else .bad
  | _ => .bad
def oeF (C0 : Nat) (Fn : FN) (neg : Bool) (f g : M P) : M Rs := fun π => (f π).bind fun p π1 => (g π1).bind fun q => oeR C0 Fn neg p q
section
variable {c : Ctx} {F F' H H' : Hp} {π : En} {σ : L2.St} {p q : P} {x y : V}
theorem two_sr {π' : En} {σ' : L2.St} (s : SR c F π' σ' H) (hx : Rp c F p x) (hy : Rp c F q y) : SR c F [.val p, .val q] ([x, y].map some) H := by
  refine ⟨s.le, rfl, fun i r e => ?_, fun i s o e1 e2 => ?_, fun i j s s' o o' a e1 e2 e3 e4 _ _ => ?_⟩
  · match i, e with
    | 0, e => cases e; exact ⟨x, rfl, hx⟩
    | 1, e => cases e; exact ⟨y, rfl, hy⟩
    | i + 2, e => simp at e
  · match i, e1 with
    | 0, e => cases e; cases e2
    | 1, e => cases e; cases e2
    | i + 2, e => simp at e
  · match i, e1 with
    | 0, e => cases e; cases e2
    | 1, e => cases e; cases e2
    | i + 2, e => simp at e
theorem two_own {a : Addr} : ¬ Own [.val p, .val q] ([x, y].map some) a := fun ⟨i, s, o, e1, e2, e3⟩ => by
  match i, e1 with
  | 0, e => cases e; cases e2
  | 1, e => cases e; cases e2
  | i + 2, e => simp at e
theorem two_no : noOwn [.val p, .val q] := fun i o e => by
  match i, e with
  | 0, e => cases e
  | 1, e => cases e
  | i + 2, e => simp at e
theorem two_gr {πs' : List Sl} (t : Tr F [.val p, .val q] ([x, y].map some) H F' πs' ([x, y].map some) H') (s' : SR c F' πs' ([x, y].map some) H') : Gr F H F' H' :=
  ⟨t.le, s'.le, fun a o e => t.keep a o e two_own, fun a e => (t.new a e).imp id fun z => z.resolve_right two_own⟩
end
theorem own_tyx {c : Ctx} {C0 : Nat} (O : OwnC c.K (c.cls C0)) {F H : Hp} {q : P} {y : V} (hq : cmpOk C0 q = true) (r : Rp c F q y) (l : Le F H) : ∃ t, TyX c.K H y t ∧ PySem.W.notFirst c.K (c.cls C0) t = true := by
  have r' := Rp.mono l _ _ r
  have ty : (tyName q).isSome = true → ∃ t, TyX c.K H y t ∧ PySem.W.notFirst c.K (c.cls C0) t = true := fun h => by
    obtain ⟨t, ht⟩ := Option.isSome_iff_exists.mp h
    refine ⟨_, tyx_of r' ht, ?_⟩
    unfold PySem.W.notFirst
    rw [sub_ty (tyName_mem ht)]
    simp
  cases q with
  | obj C vs =>
    have e : C = C0 := eq_of_beq hq
    subst e
    refine ⟨_, O.tyx r', ?_⟩
    unfold PySem.W.notFirst
    simp
  | _ => exact ty hq
section
variable {X : Cx} {c : Ctx} {w : Wi} {a b : Expr} {pos : Pos} {f g : M P} {j k C0 : Nat} {Fn : FN}
theorem oe_weak {neg : Bool} (hK : X.K = c.K) (O : OwnC c.K (c.cls C0)) {σ : L2.St} {H : Hp} {Q : VK} (h : tE c w (oeF C0 Fn neg f g) σ H Q) : tOp (rOE X.K (c.cls C0) (spF c 2 Fn) neg) (tV c w f) (tV c w g) σ H Q := by
  obtain ⟨F, π, gg, s, po⟩ := h
  refine ⟨F, π, gg, s, (Po.split po).mono fun p π1 F1 H1 t1 s1 p1 x hx => ⟨F1, π1, w.mono _ _ t1.le gg, s1, (Po.split p1).mono fun q π2 F2 H2 t2 s2 p2 y hy => ?_⟩⟩
  unfold oeR at p2
  cases p with
  | obj C vs =>
    by_cases hC : C = C0 ∧ cmpOk C0 q = true
    case neg => simp only [if_neg hC] at p2; exact p2.elim
    simp only [if_pos hC] at p2
    obtain ⟨e, hq⟩ := hC
    subst e
    have hx2 := Rp.mono t2.le _ _ hx
    obtain ⟨a, dx, us, e, ha, hr⟩ := rp_obj hx2
    obtain ⟨t, ty, hn⟩ := own_tyx O hq hy s2.le
    refine ⟨a, dx, _, t, e, s2.le.ins ha, by rw [hK]; exact ty, by rw [hK]; exact hn, F2, [.val (.obj C vs), .val q], rfl, two_no, two_sr s2 hx2 hy, ?_⟩
    cases e3 : Fn [.val (.obj C vs), .val q] with
    | bad => rw [e3] at p2; exact p2.elim
    | exc C' qs πs' => rw [e3] at p2; exact p2.elim
    | ok r πs' =>
      rw [e3] at p2
      cases r with
      | own o => exact p2.elim
      | val r =>
        cases r with
        | bl b =>
          intro v F' H' t3 s3 hv
          have gr := two_gr t3 s3
          exact ⟨b, rp_bl (show Rp c F' (.bl b) v from hv), p2 F' H' gr.tr (gr.sr s2) _ (show Rp c F' (.bl _) (.bl _) from mk_bl)⟩
        | _ => exact p2.elim
  | _ => exact p2.elim
theorem p_oeq (Cq : Cm X.prog X.w X.K X.mg X.base c j C0 "__eq__" 2 Fn) (O : OwnC X.K (c.cls C0)) (hK : X.K = c.K) (hj : j ≤ k) (hgd : X.A.guards = some []) (hr : Room k X.A) (ha : PE X a (tV c w f)) (hb : PE X b (tV c w g)) (hm : behindInMarks .Eq b = false := by rfl) :
    PE X (.Compare a [.Eq] [b] pos) (tE c w (oeF C0 Fn false f g)) := by
  obtain ⟨f', fd, ps, G, hm', hb'⟩ := Cq.ex
  exact pe_weak (pe_cmpR (op_oeq G hm' hb' hgd (hr.mono hj)) ha hb hm) fun σ H Q h => oe_weak hK (hK ▸ O) h
theorem p_one (Cq : Cm X.prog X.w X.K X.mg X.base c j C0 "__eq__" 2 Fn) (O : OwnC X.K (c.cls C0)) (hne : PySem.W.findIn X.K (.ref (c.cls C0)) "__ne__" = some (some (.builtin "object.__ne__"))) (hK : X.K = c.K) (hj : j + 1 ≤ k) (hgd : X.A.guards = some []) (hr : Room k X.A) (ha : PE X a (tV c w f)) (hb : PE X b (tV c w g)) (hm : behindInMarks .NotEq b = false := by rfl) :
    PE X (.Compare a [.NotEq] [b] pos) (tE c w (oeF C0 Fn true f g)) := by
  obtain ⟨f', fd, ps, G, hm', hb'⟩ := Cq.ex
  exact pe_weak (pe_cmpR (op_one G hm' hne O.hm hb' hgd (hr.mono hj)) ha hb hm) fun σ H Q h => oe_weak hK (hK ▸ O) h
end
/-! ### x(e, ..) where the parameter x holds a def -/
def callVF (tbl : Nat → Option FN) (i : Nat) (fa : M (List Rs)) : M Rs := fun π => match π[i]? with
  | some (.val (.fn k)) => (match tbl k with
    | some Fn => callF Fn fa π
    | none => .bad)
  | _ => .bad
structure HeldG (P : Program) (w : World) (K : PySem.W.Frag) (mg : Str → Option Value) (base : Heap) (k : Nat) (f : Addr) (sp : Sp) : Prop where
  ex : ∃ (fd : FuncData) (ps : List Str), FnG P w K mg base k f fd ps sp ∧ PySem.W.keepIn K (.ref f) = true ∧ Binds K fd ps []
theorem held_of {P : Program} {w : World} {K : PySem.W.Frag} {mg : Str → Option Value} {base : Heap} {c : Ctx} {j k n : Nat} {x : Str} {Fn : FN} {f : Addr} (C : Ca P w K mg base c j x n Fn) (hj : j ≤ k) (hm : mg x = some (.ref f)) : HeldG P w K mg base k f (spF c n Fn) := by
  obtain ⟨f', fd, ps, G, hm', hk, hb⟩ := C.ex
  rw [hm] at hm'
  cases hm'
  exact ⟨fd, ps, G.mono hj, hk, hb⟩
section
variable {X : Cx} {c : Ctx} {w : Wi} {k n i : Nat} {x : Str} {p pos : Pos} {e : Expr} {es : List Expr} {fa : M (List Rs)} {tbl : Nat → Option FN} {t : TA} {E : L2.St → XK}
theorem pe_callLG {S : Addr → Sp → Prop} (hS : ∀ f sp, S f sp → HeldG X.prog X.w X.K X.mg X.base k f sp) (hgd : X.A.guards = some []) (hr : Room k X.A) (hN : X.N[i]? = some x) (hv : Vis X.env.scope x) (hx : ∀ σ, PassesAt (L2.CX X.prog X.w) X σ (E σ)) (ha : PA X (e :: es) t)
    (hdb : (x == ("__debug__" : Str)) = false := by decide) (hcd : (x == ("__classdict__" : Str)) = false := by decide)
    (he : starEach (e :: es) X.env = (false, eval e X.env) :: starEach es X.env := by rfl) (hpl : (backTo pos (starEach es X.env)).any (·.1) = false := by rfl) :
    PE X (.Call (.Name x p) (e :: es) [] pos) (fun σ H Q => ∃ f sp, σ[i]? = some (some (.ref f)) ∧ S f sp ∧ t σ H fun vs H1 => sp vs H1 Q (E σ)) := by
  refine ⟨fun pins s σ H Q I h => ?_⟩
  obtain ⟨f, sp, hs, hS', ht⟩ := h
  obtain ⟨fd, ps, G, hk, hb⟩ := (hS f sp hS').ex
  refine wpAny_Call_Name_kw (thn ((pe_var (pos := p) hN hv hdb hcd).run pins s σ H (fun v H1 => v = .ref f ∧ H1 = H) I ⟨.ref f, hs, rfl, rfl⟩) fun u s1 ⟨v, H1, I1, r1, q1⟩ => ?_)
  obtain ⟨rfl, rfl⟩ := q1
  cases r1
  refine PySem.W.callWith_K (h₀ := X.base) I.ok.mod.kin hk (thn (ha.run pos pins s1 σ _ _ I1 ht) fun us s2 ⟨vs, H2, I2, r, q⟩ => ⟨I2.kIn, ?_⟩) he hpl
  exact run_fnG G hgd hr hb (hx σ) I2 r q
theorem p_callV (hT : ∀ k0 Fn, tbl k0 = some Fn → HeldG X.prog X.w X.K X.mg X.base k (c.fna k0) (spF c n Fn)) (hgd : X.A.guards = some []) (hr : Room k X.A) (tk : Takes X w.W) (ha : PA X (e :: es) (tR c w fa)) (hlen : ∀ π rs π', fa π = .ok rs π' → rs.length = n)
    (hN : X.N[i]? = some x := by rfl) (hv : Vis X.env.scope x := by first | exact Or.inl rfl | exact Or.inr (Or.inl rfl) | exact Or.inr (Or.inr rfl)) (hdb : (x == ("__debug__" : Str)) = false := by decide) (hcd : (x == ("__classdict__" : Str)) = false := by decide)
    (he : starEach (e :: es) X.env = (false, eval e X.env) :: starEach es X.env := by rfl) (hpl : (backTo pos (starEach es X.env)).any (·.1) = false := by rfl) :
    PE X (.Call (.Name x p) (e :: es) [] pos) (tE c w (callVF tbl i fa)) :=
  pe_weak (pe_callLG (S := fun f sp => ∃ k0 Fn, tbl k0 = some Fn ∧ f = c.fna k0 ∧ sp = spF c n Fn) (fun f sp ⟨k0, Fn, h1, h2, h3⟩ => h2 ▸ h3 ▸ hT k0 Fn h1) hgd hr hN hv (fun σ => passAt tk σ) ha hdb hcd he hpl) fun σ H Q ⟨F, π, gg, s, po⟩ => by
    unfold callVF at po
    cases e1 : π[i]? with
    | none => rw [e1] at po; exact po.elim
    | some sl =>
      cases sl with
      | val p0 =>
        cases p0 with
        | fn k0 =>
          rw [e1] at po
          cases e2 : tbl k0 with
          | none => simp only [e2] at po; exact po.elim
          | some Fn =>
            simp only [e2] at po
            obtain ⟨v, h1, h2⟩ := s.vl i _ e1
            have h3 := rp_fn h2
            subst h3
            refine ⟨_, _, h1, ⟨k0, Fn, e2, rfl, rfl⟩, F, π, gg, s, ?_⟩
            unfold callF at po
            cases e0 : fa π with
            | bad => rw [e0] at po; exact po
            | exc C qs π1 => rw [e0] at po; exact po
            | ok rs π1 =>
              rw [e0] at po
              intro F1 H1 t s1 vs hx
              refine call_post s1 hx (hlen _ _ _ e0) (Po.from po t) fun r π2 F2 H2 v t2 kk hr2 => kk v (hr2.base t)
        | _ => rw [e1] at po; exact po.elim
      | _ => rw [e1] at po; exact po.elim
end
end PV

namespace PV
open PySem PySem.Spec L2 PyProof.Rows
open PySem.Sem (wp)

/-! ### enumerate(tuple), at the library's level -/
set_option maxHeartbeats 1000000 in
theorem meets_enum1 {v : Value} {o : Obj} {H : Heap → Prop} (B : Begins v o H) :
    Meets (Builtin.«enumerate.__new__» ⟨[.type "enumerate", v], []⟩) (fun _ R s => H s.heap ∧
      R (.ok (.ret (.ref (s.heap.push o).objs.size))) { s with heap := (s.heap.push o).push { cls := .type "enumerate", data := .fields #[.none, .bool false, .ref s.heap.objs.size, rawInt 0, .none, .none] } }) :=
  .of_wp fun prog w A R s h => by
    obtain ⟨hp, g, d, tk, os⟩ := s; obtain ⟨h1, h⟩ := h
    have hsub := sub_enumerate
    have q1 : ∀ {A' : Around} {E : Value → Shared → Prop} {Q : Value → Shared → Prop}, Q (.ref hp.objs.size) ⟨hp.push o, g, d, tk, os⟩ → wpAny (model prog w) A' (pyIter v) Q E ⟨hp, g, d, tk, os⟩ :=
      fun q => B.iter prog w _ _ ⟨hp, g, d, tk, os⟩ _ h1 q
    wp_walk using q1
    refine wpAny_stack_any fun st => wpAny_pure ?_
    split
    · rename_i c _ _ _ _ _
      cases (c == Value.type "enumerate")
      · wp_walk using q1
        exact ⟨_, rfl, h⟩
      · wp_walk using q1
        exact ⟨_, rfl, h⟩
    · wp_walk using q1
      exact ⟨_, rfl, h⟩
theorem enum_begins1 {prog : Program} {w : World} {A : Around} {E : Value → Shared → Prop} {s : Shared} {v : Value} {o : Obj} {H : Heap → Prop} {Q : Value → Shared → Prop} (B : Begins v o H) (h1 : H s.heap)
    (h : ∀ h', IsEnum h' (s.heap.objs.size + 1) s.heap.objs.size 0 .none → h'.get? s.heap.objs.size = some o → h'.objs.size = s.heap.objs.size + 2 →
      (∀ b o, s.heap.get? b = some o → h'.get? b = some o) → Q (.ref (s.heap.objs.size + 1)) { s with heap := h' }) :
    wpAny (model prog w) A (call (.type "enumerate") [v]) Q E s := by
  refine callType_new F.called_enumerate (by decide) (F.typeCall_enumerate_1 _) (F.newCall_enumerate_1 _) (fun obj => F.args_object_init_2 obj _) F.entry_enumerate_new (meets_enum1 B) ⟨h1, ?_⟩
  have hz : (s.heap.push o).objs.size = s.heap.objs.size + 1 := Heap.size_push ..
  show _ ∧ _
  rw [hz]
  have he : IsEnum ((s.heap.push o).push { cls := .type "enumerate", data := .fields #[.none, .bool false, .ref s.heap.objs.size, rawInt 0, .none, .none] }) (s.heap.objs.size + 1) s.heap.objs.size 0 .none := by
    have := Heap.get?_push_size (s.heap.push o) (o := { cls := .type "enumerate", data := .fields #[.none, .bool false, .ref s.heap.objs.size, rawInt 0, .none, .none] }) rfl
    rw [hz] at this; exact this
  refine ⟨⟨_, he, rfl⟩, h _ he (Heap.get?_push_of_some _ (Heap.get?_push_size _ B.free)) (by rw [Heap.size_push, hz]) fun b o x => Heap.get?_push_of_some _ (Heap.get?_push_of_some _ x)⟩
theorem enumT_end {prog : Program} {w : World} {A : Around} {E : Value → Shared → Prop} {s : Shared} {e it l : Addr} {i : Nat} {j : Int} {items : Array Value} {old : Value} {Q : Option Value → Shared → Prop} (hh : A.in1.handled = none)
    (he : IsEnum s.heap e it j old) (hit : s.heap.IsTupleIter it l i) (hl : s.heap.IsTuple l items) (hx : items[i]? = none)
    (hQ : ∀ h', Heap.ExtBut it s.heap h' → Q none { s with heap := h' }) : wpAny (model prog w) A (pyNext (.ref e)) Q E s := by
  have hT : s.TypeIs (.ref e) "enumerate" := ⟨_, he, rfl⟩
  unfold pyNext
  refine wpAny_bind (wpAny_attempt (wpAny_callSpecial?_slot (name := Str.ofString "__next__") hT F.slot_enumerate_next
    (wpAny_call_entry F.slot_enumerate_next hT F.entry_enumerate_next ?_ (F.args_enumerate_next_1 _))))
  show wpAny _ _ (field (.ref e) 2 >>= _) _ _ _
  refine wpAny_bind (wpAny_field he rfl (x := .ref it) rfl ?_)
  refine wpAny_bind (RZ.nextOf_tuple_end hh hit hl hx fun h' x he' hx' => ?_)
  obtain ⟨o, ho, hc⟩ := hx'
  refine wpAny_bind (wpAny_isInstance (T := "StopIteration") (b := true) ⟨o, ho, hc⟩ isSubtype_stop ?_)
  exact wpAny_pure (hQ _ he')
/-! ### .. over the layer -/
def IteT (K : PySem.W.Frag) (a : Addr) : It :=
  ⟨fun i H => ∃ (xs : List V) (x : V), SqT K H a xs ∧ xs[i]? = some x, fun i H v H' => ∃ T x, v = .ref T ∧ H T = none ∧ H' = upd H T (.tup [.int (i : Nat), x]) ∧ ∀ xs, SqT K H a xs → xs[i]? = some x, fun i H => ∃ xs : List V, SqT K H a xs ∧ xs.length ≤ i⟩
theorem turn_enumT {P : Program} {w : World} {K : PySem.W.Frag} {elts : List Expr} {kk : Nat} {tpos : Pos} (a e it : Addr) (hea : e ≠ a) (hia : it ≠ a) :
    Turn P w K (.Tuple elts kk tpos) (IteT K a) [e, it] e (fun i h => (∃ old, IsEnum h e it ((i : Nat) : Int) old) ∧ h.IsTupleIter it a i ∧ e ≠ it) where
  mem := by simp
  obj := fun i h st b hb => by
    obtain ⟨⟨old, he⟩, ⟨o, ho, hc, hd⟩, _⟩ := st
    have e' : b = e ∨ b = it := by simpa using hb
    rcases e' with z | z
    · rw [z]; exact ⟨_, he, fun v q => nomatch q⟩
    · rw [z]; exact ⟨o, ho, fun v q => by rw [hd] at q; cases q⟩
  keep := fun i h h' st k => let ⟨⟨old, he⟩, hi, hne⟩ := st; ⟨⟨old, k e (by simp) _ he⟩, hi.at fun o q => k it (by simp) o q, hne⟩
  item := by
    intro X hP hw hK hc i pins s σ H E I hf st hg
    subst hP hw hK
    obtain ⟨⟨old, he⟩, hit, hne⟩ := st
    obtain ⟨xs, x, hq, hx⟩ := hg
    obtain ⟨its, rv, p, hz⟩ := I.tuple hq
    obtain ⟨u, hu, ru⟩ := rv.get hx
    have hel : e < s.heap.objs.size := Heap.lt_size he
    have hil : it < s.heap.objs.size := by obtain ⟨_, q, _⟩ := hit; exact Heap.lt_size q
    have D := Draws.tuple (prog := X.prog) (w := X.w) (A := X.A.in1) (I.ok.hd hc) it a (Ne.symm hia) its.toArray
    have hlt : i < its.toArray.size := by
      have := (List.getElem?_eq_some_iff.mp hu).1
      simpa using this
    refine wpAny_pyNext_enum_itemD D he ⟨hit, p⟩ hlt hne (by simp [hne, hea]) fun x' h' tk hP ho hst hT hsz hk => ?_
    have hx' : x' = u := by
      have hP' : its.toArray[i]? = some x' := hP
      rw [show its.toArray[i]? = some u by simpa using hu] at hP'
      exact (Option.some.inj hP').symm
    subst hx'
    refine ⟨_, rfl, wpAny_letOwnedTupleGo_enum (s := { s with heap := h', toks := tk + 1 }) ho fun h'' he' sb => ?_⟩
    have hT2 : h''.get? s.heap.objs.size = some { cls := .type "tuple", data := .seq #[.int i tk, x'] } := (sb.2 _ (Nat.ne_of_gt hel)).trans hT
    have new : ObjOk X.prog X.w (upd H s.heap.objs.size (.tup [.int (i : Nat), x])) h'' s.heap.objs.size (.tup [.int (i : Nat), x]) :=
      ⟨by show 2 ≤ sizeLine; decide, [.int i tk, x'], .cons ⟨_, rfl⟩ (.cons ru .nil), ⟨_, hT2, rfl, _, rfl⟩⟩
    have I1 : Inv X pins σ (upd H s.heap.objs.size (.tup [.int (i : Nat), x])) { s with heap := h'', toks := tk + 1 } :=
      I.turnedNew (ch := [e, it]) (fun b ob hb q => (sb.2 b (fun z => hb (by simp [z]))).trans (hk b ob (fun z => hb (by simp [z])) (fun z => hb (by simp [z])) q)) hf (Nat.le_refl _) new
    refine ⟨.ref s.heap.objs.size, _, I1, rfl, ⟨_, x, rfl, I.hok.fresh (Nat.le_refl _), rfl, fun ys hy => by rw [I.tuple_inj hy hq]; exact hx⟩, ⟨⟨x', ?_⟩, hst.1.at fun o q => (sb.2 it (Ne.symm hne)).trans q, hne⟩, fun b hb => ?_⟩
    · have e1 : ((i + 1 : Nat) : Int) = (i : Int) + 1 := by omega
      rw [e1]; exact he'
    · have hb' : b < s.heap.objs.size := by
        have e' : b = e ∨ b = it := by simpa using hb
        rcases e' with z | z
        · rw [z]; exact hel
        · rw [z]; exact hil
      rw [upd_ne (Nat.ne_of_lt hb')]
      exact (hf b hb).1
  done := by
    intro X hP hw hK hc i pins s σ H E I hf st hg
    subst hP hw hK
    obtain ⟨⟨old, he⟩, hit, hne⟩ := st
    obtain ⟨xs, hq, hx⟩ := hg
    obtain ⟨its, rv, p, hz⟩ := I.tuple hq
    obtain ⟨f0, f1, f2, f3, f4, f5⟩ := hf it (by simp)
    have hl := rv.length
    exact enumT_end (I.ok.hd hc) he hit p (by simp; omega) fun h' eb => ⟨rfl, I.turned (t' := s.toks) (fun b o hb q => eb b o hb q) f0 f1 f3 f4 f5⟩
  self := fun A i s Q E st h => let ⟨⟨_, he⟩, _⟩ := st; wpAny_pyIter_enum he h
/-- enumerate(list or tuple) -/
def iEnumA (K : PySem.W.Frag) (ta : TA) : TI := fun σ H R => ta σ H fun vs H1 => ∃ a xs, vs = [.ref a] ∧ ((SqL K H1 a xs ∧ (xs.length ≤ sizeLine → R (Ite K a) H1)) ∨ (SqT K H1 a xs ∧ (xs.length ≤ sizeLine → R (IteT K a) H1)))
theorem pi_enumA {X : Cx} {e : Expr} {ta : TA} {p pos tpos : Pos} {elts : List Expr} {kk : Nat} (hg : Gl X "enumerate") (hm : X.mg "enumerate" = none) (ha : PA X [e] ta) (hs : starEach [e] X.env = [(false, eval e X.env)] := by rfl) :
    PI X (.Tuple elts kk tpos) (.Call (.Name "enumerate" p) [e] [] pos) (iEnumA X.K ta) := by
  refine ⟨fun pins s σ H R I h => ?_⟩
  refine Call_ (ld_blt I hg hm boot_enumerate (PyProof.Rows.callWith_type1 (thn (ha.run pos pins s σ H _ I h) fun us s1 ⟨vs, H1, I1, r1, q1⟩ => ?_) hs rfl))
  obtain ⟨a, xs, ex, q⟩ := q1
  subst ex
  cases r1 with
  | cons r rr =>
    cases rr
    cases r
    have fresh2 : ∀ b, b ∈ [s1.heap.objs.size + 1, s1.heap.objs.size] → FpOk X pins H1 b := fun b hb => by
      have e' : b = s1.heap.objs.size + 1 ∨ b = s1.heap.objs.size := by simpa using hb
      have hle : s1.heap.objs.size ≤ b := by
        rcases e' with z | z
        · rw [z]; exact Nat.le_add_right _ _
        · rw [z]; exact Nat.le_refl _
      exact I1.fpOk hle (I1.hok.fresh hle)
    rcases q with ⟨hq, q⟩ | ⟨hq, q⟩
    · obtain ⟨its, rv, p', hz⟩ := I1.list hq
      refine call_enumerate_list p'.isList fun h' he hit hsz hk => wpAny_pyIter_enum he ?_
      have I2 : Inv X pins σ H1 { s1 with heap := h' } := I1.kept (t' := s1.toks) hk
      exact ⟨s1.heap.objs.size + 1, [s1.heap.objs.size + 1, s1.heap.objs.size], _, _, H1, rfl, I2, turn_enum a (s1.heap.objs.size + 1) s1.heap.objs.size, ⟨⟨.none, he⟩, hit, Nat.succ_ne_self _⟩, fresh2, q hz⟩
    · obtain ⟨its, rv, p', hz⟩ := I1.tuple hq
      have p2 : s1.heap.IsTuple a its.toArray := p'
      have hal : a < s1.heap.objs.size := by obtain ⟨_, q, _⟩ := p2; exact Heap.lt_size q
      refine enum_begins1 (begins_tuple a its.toArray) p2 fun h' he hit hsz hk => wpAny_pyIter_enum he ?_
      have I2 : Inv X pins σ H1 { s1 with heap := h' } := I1.kept (t' := s1.toks) hk
      exact ⟨s1.heap.objs.size + 1, [s1.heap.objs.size + 1, s1.heap.objs.size], _, _, H1, rfl, I2, turn_enumT a (s1.heap.objs.size + 1) s1.heap.objs.size (Nat.ne_of_gt (Nat.lt_succ_of_lt hal)) (Nat.ne_of_gt hal), ⟨⟨.none, he⟩, ⟨_, hit, rfl, rfl⟩, Nat.succ_ne_self _⟩, fresh2, q hz⟩
section
variable {c : Ctx} {F : Hp} {a b : Addr} {vs us : List V} {ps qs : List P}
theorem wk_enumT (h : SqT c.K F a vs) (r : Rps c F ps vs) : Wk c F (IteT c.K a) (enumP 0 ps) where
  stop := fun G l => ⟨vs, l.sqT h, by rw [enumP_len, rps_len r]; exact Nat.le_refl _⟩
  go := fun i G l hi => ⟨vs, vs[i]'(by rw [enumP_len] at hi; rw [← rps_len r]; exact hi), l.sqT h, List.getElem?_eq_getElem _⟩
  yld := fun i q F1 G x G' l1 l2 e y => by
    obtain ⟨T, y1, rfl, hT, rfl, hy⟩ := y
    obtain ⟨p, e1, rfl⟩ := enumP_get 0 ps i q e
    have rp := Rp.mono l1 _ _ (get_rp r e1 (hy vs ((l1.trans l2).sqT h)))
    have gr := gr_tup (vs := [.int ((i : Nat) : Int), y1]) l2 hT
    refine ⟨_, gr, ?_⟩
    unfold Rp
    refine ⟨T, _, rfl, .of (by rw [upd_same]), rps_cons ?_ (rps_cons (Rp.mono gr.le _ _ rp) rps_nil)⟩
    have z : ((0 + i : Nat) : Int) = (i : Int) := by simp
    rw [z]
    exact mk_int
/-- zip -/
def zipP : List P → List P → List P
  | p :: ps, q :: qs => .tup [p, q] :: zipP ps qs
  | _, _ => []
theorem zipP_len : ∀ (ps qs : List P), (zipP ps qs).length = min ps.length qs.length
  | [], _ => by simp [zipP]
  | _ :: _, [] => by simp [zipP]
  | p :: ps, q :: qs => by simp [zipP, zipP_len ps qs]
theorem zipP_get : ∀ (ps qs : List P) (i : Nat) (r : P), (zipP ps qs)[i]? = some r → ∃ p q, ps[i]? = some p ∧ qs[i]? = some q ∧ r = .tup [p, q]
  | [], _, i, r, e => by simp [zipP] at e
  | _ :: _, [], i, r, e => by simp [zipP] at e
  | p :: ps, q :: qs, 0, r, e => by
    simp [zipP] at e
    exact ⟨p, q, rfl, rfl, e.symm⟩
  | p :: ps, q :: qs, i + 1, r, e => by
    obtain ⟨p', q', h1, h2, h3⟩ := zipP_get ps qs i r (by simpa [zipP] using e)
    exact ⟨p', q', by simpa using h1, by simpa using h2, h3⟩
theorem wk_zip (h : SqL c.K F a vs) (h' : SqL c.K F b us) (r : Rps c F ps vs) (r' : Rps c F qs us) : Wk c F (Itz c.K a b) (zipP ps qs) where
  stop := fun G l => ⟨vs, us, l.sqL h, l.sqL h', by have := rps_len r; have := rps_len r'; rw [zipP_len]; omega⟩
  go := fun i G l hi => by
    have h1 := rps_len r
    have h2 := rps_len r'
    rw [zipP_len] at hi
    exact ⟨vs, us, vs[i]'(by omega), us[i]'(by omega), l.sqL h, l.sqL h', List.getElem?_eq_getElem _, List.getElem?_eq_getElem _⟩
  yld := fun i q F1 G x G' l1 l2 e y => by
    obtain ⟨T, y1, y2, rfl, hT, rfl, hy, hy'⟩ := y
    obtain ⟨p, p', e1, e2, rfl⟩ := zipP_get ps qs i q e
    have rp := Rp.mono l1 _ _ (get_rp r e1 (hy vs ((l1.trans l2).sqL h)))
    have rp' := Rp.mono l1 _ _ (get_rp r' e2 (hy' us ((l1.trans l2).sqL h')))
    have gr := gr_tup (vs := [y1, y2]) l2 hT
    exact ⟨_, gr, mk_tup (.of (by rw [upd_same])) (rps_cons (Rp.mono gr.le _ _ rp) (rps_cons (Rp.mono gr.le _ _ rp') rps_nil))⟩
theorem wk_zipT (h : SqT c.K F a vs) (h' : SqT c.K F b us) (r : Rps c F ps vs) (r' : Rps c F qs us) : Wk c F (RZ.ItzT c.K a b) (zipP ps qs) where
  stop := fun G l => ⟨vs, us, l.sqT h, l.sqT h', by have := rps_len r; have := rps_len r'; rw [zipP_len]; omega⟩
  go := fun i G l hi => by
    have h1 := rps_len r
    have h2 := rps_len r'
    rw [zipP_len] at hi
    exact ⟨vs, us, vs[i]'(by omega), us[i]'(by omega), l.sqT h, l.sqT h', List.getElem?_eq_getElem _, List.getElem?_eq_getElem _⟩
  yld := fun i q F1 G x G' l1 l2 e y => by
    obtain ⟨T, y1, y2, rfl, hT, rfl, hy, hy'⟩ := y
    obtain ⟨p, p', e1, e2, rfl⟩ := zipP_get ps qs i q e
    have rp := Rp.mono l1 _ _ (get_rp r e1 (hy vs ((l1.trans l2).sqT h)))
    have rp' := Rp.mono l1 _ _ (get_rp r' e2 (hy' us ((l1.trans l2).sqT h')))
    have gr := gr_tup (vs := [y1, y2]) l2 hT
    exact ⟨_, gr, mk_tup (.of (by rw [upd_same])) (rps_cons (Rp.mono gr.le _ _ rp) (rps_cons (Rp.mono gr.le _ _ rp') rps_nil))⟩
end
def enumAR (ps : List P) : M (List P) := fun π => match ps with
  | [q] => (match seqItems q with
    | some qs => .ok (enumP 0 qs) π
    | none => .bad)
  | _ => .bad
def enumAF (fa : M (List P)) : M (List P) := fun π => (fa π).bind enumAR
def zipR (ps : List P) : M (List P) := fun π => match ps with
  | [.lst ps, .lst qs] => if ps.length ≤ 1000000 then .ok (zipP ps qs) π else .bad
  | [.tup ps, .tup qs] => if ps.length ≤ 1000000 then .ok (zipP ps qs) π else .bad
  | _ => .bad
def zipF (fa : M (List P)) : M (List P) := fun π => (fa π).bind zipR
section
variable {X : Cx} {c : Ctx} {w : Wi} {e e2 : Expr} {p pos tpos : Pos} {elts : List Expr} {kk : Nat} {fa : M (List P)}
theorem i_enumA (hK : X.K = c.K) (hg : Gl X "enumerate") (hm : X.mg "enumerate" = none) (ha : PA X [e] (tAs c w fa)) (hs : starEach [e] X.env = [(false, eval e X.env)] := by rfl) :
    PI X (.Tuple elts kk tpos) (.Call (.Name "enumerate" p) [e] [] pos) (tI c w (enumAF fa)) :=
  pi_weak (pi_enumA hg hm ha hs) fun σ H R ⟨F, π, gg, s, po⟩ => by
    refine ⟨F, π, gg, s, (Po.split po).mono fun ps π1 F1 H1 t1 s1 p1 vs hr => ?_⟩
    rw [hK]
    unfold enumAR at p1
    split at p1
    · rename_i q
      obtain ⟨v, us, rfl, h1, h2⟩ := rps_inv hr
      rw [rps_nil_inv h2]
      cases q with
      | lst qs =>
        obtain ⟨a, xs, rfl, h3, h4⟩ := rp_lst h1
        exact ⟨a, xs, rfl, .inl ⟨.of (s1.le.lst h3), fun hz => p1 F1 H1 .refl s1 _ (wk_enum (.of h3) h4) (by rw [enumP_len, rps_len h4]; exact hz)⟩⟩
      | tup qs =>
        obtain ⟨a, xs, rfl, h3, h4⟩ := rp_tup h1
        exact ⟨a, xs, rfl, .inr ⟨s1.le.sqT h3, fun hz => p1 F1 H1 .refl s1 _ (wk_enumT h3 h4) (by rw [enumP_len, rps_len h4]; exact hz)⟩⟩
      | _ => exact p1.elim
    · exact p1.elim
theorem i_zip (hK : X.K = c.K) (hg : Gl X "zip") (hm : X.mg "zip" = none) (ha : PA X [e, e2] (tAs c w fa))
    (hs : starEach [e, e2] X.env = (false, eval e X.env) :: starEach [e2] X.env := by rfl) (hpl : (backTo pos (starEach [e2] X.env)).any (·.1) = false := by rfl) :
    PI X (.Tuple elts kk tpos) (.Call (.Name "zip" p) [e, e2] [] pos) (tI c w (zipF fa)) :=
  pi_weak (RZ.pi_zipA hg hm ha hs hpl) fun σ H R ⟨F, π, gg, s, po⟩ => by
    refine ⟨F, π, gg, s, (Po.split po).mono fun ps π1 F1 H1 t1 s1 p1 vs hr => ?_⟩
    rw [hK]
    unfold zipR at p1
    split at p1
    · rename_i qs rs
      obtain ⟨v, us, rfl, h1, h2⟩ := rps_inv hr
      obtain ⟨v', us', rfl, h1', h2'⟩ := rps_inv h2
      rw [rps_nil_inv h2']
      obtain ⟨a, xs, rfl, h3, h4⟩ := rp_lst h1
      obtain ⟨b, ys, rfl, h5, h6⟩ := rp_lst h1'
      by_cases z : qs.length ≤ 1000000
      · rw [if_pos z] at p1
        exact ⟨a, b, xs, ys, rfl, .inl ⟨.of (s1.le.lst h3), .of (s1.le.lst h5), p1 F1 H1 .refl s1 _ (wk_zip (.of h3) (.of h5) h4 h6) (by rw [zipP_len, sizeLine_eq]; omega)⟩⟩
      · rw [if_neg z] at p1; exact p1.elim
    · rename_i qs rs
      obtain ⟨v, us, rfl, h1, h2⟩ := rps_inv hr
      obtain ⟨v', us', rfl, h1', h2'⟩ := rps_inv h2
      rw [rps_nil_inv h2']
      obtain ⟨a, xs, rfl, h3, h4⟩ := rp_tup h1
      obtain ⟨b, ys, rfl, h5, h6⟩ := rp_tup h1'
      by_cases z : qs.length ≤ 1000000
      · rw [if_pos z] at p1
        exact ⟨a, b, xs, ys, rfl, .inr ⟨s1.le.sqT h3, s1.le.sqT h5, p1 F1 H1 .refl s1 _ (wk_zipT h3 h5 h4 h6) (by rw [zipP_len, sizeLine_eq]; omega)⟩⟩
      · rw [if_neg z] at p1; exact p1.elim
    · exact p1.elim
end
end PV

namespace PV
open PySem PySem.Spec L2 PyProof.Rows

/-! ### x += e, ints -/
def augR (i : Nat) (f : Int → Int → Int) (p : P) (r : Rs) : M Fl := fun π => match p, r with
  | .int a, .val (.int b) => setR i (.val (.int (f a b))) π
  | _, _ => .bad
def augF (i : Nat) (f : Int → Int → Int) (fe : M Rs) : M Fl := fun π => match π[i]? with
  | some (.val p) => (fe π).bind (augR i f p)
  | _ => .bad
section
variable {X : Cx} {c : Ctx} {w : Ws} {e : Expr} {pos pos' : Pos} {fe : M Rs} {op : Operator} {f : Int → Int → Int}
theorem s_aug {i : Nat} {x : Str} (ho : PIp X op (ipI f)) (hN : X.N.Nodup) (hi : X.N[i]? = some x) (hx : Loc X.env.scope x) (he : PE X e (tE c w fe))
    (hf : X.fn x = true ∨ X.env.scope.names.lookup x = some .local := by first | exact .inl rfl | exact .inr rfl | assumption) : PS X (.AugAssign (.Name x pos') op e pos) (tS c w (augF i f fe)) :=
  ps_weak (ps_aug hN hi hx he ho hf) fun D σ H ⟨F, π, gg, s, po⟩ => by
    unfold augF at po
    cases q : π[i]? with
    | none => rw [q] at po; exact po.elim
    | some sl =>
      rw [q] at po
      cases sl with
      | val p =>
        obtain ⟨v, h1, h2⟩ := s.vl i p q
        refine ⟨v, h1, F, π, gg, s, ?_⟩
        cases e0 : fe π with
        | bad => simp only [e0] at po; exact po
        | exc C ps π1 => simp only [e0] at po; exact fun F' H' d t s => po F' σ H' d t s
        | ok r π1 =>
          simp only [e0] at po
          intro F1 H1 t1 s1 y hy
          have p1 : PoS c w.W F π σ H (augR i f p r π1) (flK c D π σ H) := po
          unfold augR at p1
          split at p1
          · rename_i a b
            have e1 := rp_int h2
            have e2 := rp_int (show Rp c F1 (.int b) y from hy)
            subst e1 e2
            refine ⟨a, b, rfl, rfl, ?_⟩
            obtain ⟨π', k⟩ := set_post s1 (show RR c π H F1 π1 σ H1 (.val (.int (f a b))) (.int (f a b)) from (show Rp c F1 (.int (f a b)) (.int (f a b)) from mk_int)) t1 p1
            exact k
          · exact p1.elim
      | _ => exact po.elim
end
/-! ### x, y, z = e, e', e'' -/
def Rs.isOwn : Rs → Bool
  | .own _ => true
  | _ => false
def set3R (i j l : Nat) (r1 r2 r3 : Rs) : M Fl := fun π => (setR i r1 π).bind fun _ π1 => (setR j r2 π1).bind fun _ π2 => setR l r3 π2
def par3R (i j l : Nat) (rs : List Rs) : M Fl := fun π => match rs with
  | [r1, r2, r3] => if (r1.isOwn && r2.isOwn || r1.isOwn && r3.isOwn || r2.isOwn && r3.isOwn) = false then set3R i j l r1 r2 r3 π else .bad
  | _ => .bad
def par3F (i j l : Nat) (fa : M (List Rs)) : M Fl := fun π => (fa π).bind (par3R i j l)
theorem rq_next {c : Ctx} {F H : Hp} {π π' : En} {σ σ' : L2.St} {r1 r2 : Rs} {v u : V} (h : RQ c F π σ H r2 u) (o3 : ∀ b, Own π' σ' b → Own π σ b ∨ (v = .ref b ∧ ∃ o, r1 = .own o)) (hno : (r1.isOwn && r2.isOwn) = false) : RQ c F π' σ' H r2 u := by
  cases r2 with
  | val p => exact h
  | bor k => trivial
  | own o =>
    obtain ⟨a, e, h1, h2, h3⟩ := h
    refine ⟨a, e, h1, fun z => ?_, h3⟩
    rcases o3 a z with q | ⟨_, o', q⟩
    · exact h2 q
    · subst q; simp [Rs.isOwn] at hno
theorem bind_ok {c : Ctx} {W : WX} {F0 H0 : Hp} {π0 : En} {σ0 : L2.St} {o : Out Fl} {K : Fl → En → Hp → L2.St → Hp → Prop} (h : PoS c W F0 π0 σ0 H0 o K) : PoS c W F0 π0 σ0 H0 (o.bind fun fl π => .ok fl π) K := by
  cases o with
  | ok a π => exact h
  | exc C ps π => exact h
  | bad => exact h
section
variable {X : Cx} {c : Ctx} {w : Ws} {a b d : Expr} {x y z : Str} {px py pz pt pos : Pos} {kt k2 pt2} {i j l : Nat} {fa : M (List Rs)}
theorem s_par3 (hc : X.calm = true) (hN : X.N.Nodup) (hi : X.N[i]? = some x) (hj : X.N[j]? = some y) (hl : X.N[l]? = some z) (hij : i ≠ j) (hil : i ≠ l) (hjl : j ≠ l)
    (hx : X.env.scope.names.lookup x = some .local) (hy : X.env.scope.names.lookup y = some .local) (hz : X.env.scope.names.lookup z = some .local) (ha : PA X [a, b, d] (tR c w fa))
    (hw : swappedStores [.Tuple [.Name x px, .Name y py, .Name z pz] kt pt] (.Tuple [a, b, d] k2 pt2) X.env = pure (some [x, y, z]))
    (hs : swapsWithSole [.Tuple [.Name x px, .Name y py, .Name z pz] kt pt] (.Tuple [a, b, d] k2 pt2) pos.line X.env = pure false := by rfl) :
    PS X (.Assign [.Tuple [.Name x px, .Name y py, .Name z pz] kt pt] (.Tuple [a, b, d] k2 pt2) pos) (tS c w (par3F i j l fa)) :=
  ps_weak (ps_par3 hc hN hi hj hl hij hil hjl hx hy hz ha hw hs) fun D σ H ⟨F, π, gg, s, po⟩ => by
    refine ⟨F, π, gg, s, ?_⟩
    unfold par3F at po
    cases e0 : fa π with
    | bad => rw [e0] at po; exact po
    | exc C ps π1 => rw [e0] at po; exact fun F' H' d t s => po F' σ H' d t s
    | ok rs π1 =>
    rw [e0] at po
    intro F1 H1 t1 s1 vs hv
    have p1 : PoS c w.W F π σ H (par3R i j l rs π1) (flK c D π σ H) := po
    unfold par3R at p1
    split at p1
    · rename_i r1 r2 r3
      obtain ⟨v1, vs1, rfl, h1, hv1⟩ := hv
      obtain ⟨v2, vs2, rfl, h2, hv2⟩ := hv1
      obtain ⟨v3, vs3, rfl, h3, hv3⟩ := hv2
      have e3 : vs3 = [] := hv3
      subst e3
      refine ⟨v1, v2, v3, rfl, ?_⟩
      by_cases hno : (r1.isOwn && r2.isOwn || r1.isOwn && r3.isOwn || r2.isOwn && r3.isOwn) = false
      case neg => rw [if_neg hno] at p1; exact p1.elim
      rw [if_pos hno] at p1
      have n12 : (r1.isOwn && r2.isOwn) = false := by cases q1 : r1.isOwn <;> cases q2 : r2.isOwn <;> simp_all
      have n13 : (r1.isOwn && r3.isOwn) = false := by cases q1 : r1.isOwn <;> cases q2 : r3.isOwn <;> simp_all
      have n23 : (r2.isOwn && r3.isOwn) = false := by cases q1 : r2.isOwn <;> cases q2 : r3.isOwn <;> simp_all
      have fr : ∀ {r : Rs} {v : V}, RR c π H F1 π1 σ H1 r v → ∀ a o, v = .ref a → r = .own o → Fr0 π σ H a := fun {r v} h a o ev er => by
        subst er
        obtain ⟨a', e4, _, _, _, fr⟩ := h
        rw [ev] at e4; cases e4
        exact fr
      unfold set3R at p1
      obtain ⟨π2, e1, s2, t2, o2⟩ := setR_step s1 h1.rq p1
      rw [e1] at p1
      have T2 := t2 F π σ H t1 (fr h1)
      have p2 : PoS c w.W F π σ H ((setR j r2 π2).bind fun _ π2 => setR l r3 π2) (flK c D π σ H) := p1
      obtain ⟨π3, e2, s3, t3, o3⟩ := setR_step s2 (rq_next h2.rq o2 n12) p2
      rw [e2] at p2
      have T3 := t3 F π σ H T2 (fr h2)
      have p3 : PoS c w.W F π σ H (setR l r3 π3) (flK c D π σ H) := p2
      obtain ⟨π4, e4, s4, t4, o4⟩ := setR_step s3 (rq_next (rq_next h3.rq o2 n13) o3 n23) (bind_ok p3)
      rw [e4] at p3
      exact p3 F1 _ H1 (t4 F π σ H T3 (fr h3)) s4
    · exact p1.elim
end
end PV

namespace PV
open PySem PySem.Spec L2 PyProof.Rows

/-! ### lists of values -/
def nilV : M (List P) := fun π => .ok [] π
def consV (f : M P) (g : M (List P)) : M (List P) := fun π => (f π).bind fun p π1 => (g π1).bind fun ps π2 => .ok (p :: ps) π2
section
variable {X : Cx} {c : Ctx} {w : Wi} {e : Expr} {es : List Expr} {f : M P} {g : M (List P)}
theorem pv_nil : PA X [] (tAs c w nilV) := pa_weak pa_nil fun σ H Q ⟨F, π, gg, s, po⟩ => po F H .refl s [] rps_nil
theorem pv_cons (ha : PE X e (tV c w f)) (hr : PA X es (tAs c w g)) (hs : starEach (e :: es) X.env = (false, eval e X.env) :: starEach es X.env := by rfl) : PA X (e :: es) (tAs c w (consV f g)) :=
  pa_weak (pa_cons ha hr hs) fun σ H Q ⟨F, π, gg, s, po⟩ => by
    refine ⟨F, π, gg, s, (Po.split po).mono fun p π1 F1 H1 t1 s1 p1 v hv => ⟨F1, π1, w.mono _ _ t1.le gg, s1, (Po.split p1).mono fun ps π2 F2 H2 t2 s2 p2 vs hvs => ?_⟩⟩
    exact p2 F2 H2 .refl s2 _ (rps_cons (Rp.mono t2.le _ _ hv) hvs)
end
theorem len_suc {fa : M (List Rs)} {n : Nat} (h : ∀ π rs π', fa π = .ok rs π' → rs.length = n) : ∀ π rs π', fa π = .ok rs π' → rs.length + 1 = n + 1 := fun π rs π' e => by rw [h π rs π' e]
theorem p_gstrE {X : Cx} {c : Ctx} {w : Wi} {x : Str} {pos : Pos} {s : Str} (hg : Gl X x) (h : ∃ t, X.mg x = some (.str s t)) (hd : (x == ("__debug__" : Str)) = false := by decide) : PE X (.Name x pos) (tE c w (cF (.str s))) := by
  obtain ⟨t, h⟩ := h
  exact pe_weak (pe_glob (v := .str s) hg h ⟨t, rfl⟩ hd) (tC_of fun _ => mk_str)
section
variable {X : Cx} {c : Ctx} {w : Wi} {a b : Expr} {pos : Pos} {f g : M P} {j k C0 : Nat} {Fn : FN}
theorem p_toeq (Cq : Cm X.prog X.w X.K X.mg X.base c j C0 "__eq__" 2 Fn) (O : OwnC X.K (c.cls C0)) (hK : X.K = c.K) (hj : j ≤ k) (hgd : X.A.guards = some []) (hr : Room k X.A) (ha : PE X a (tV c w f)) (hb : PE X b (tV c w g)) (hm : behindInMarks .Eq b = false := by rfl) :
    PT X (.Compare a [.Eq] [b] pos) (tT c w (tstF (oeF C0 Fn false f g))) := by
  obtain ⟨f', fd, ps, G, hm', hb'⟩ := Cq.ex
  exact pt_weak (pt_cmpR (op_oeq G hm' hb' hgd (hr.mono hj)) ha hb hm) (tst_weak fun σ H Q h => oe_weak hK (hK ▸ O) h)
theorem p_tone (Cq : Cm X.prog X.w X.K X.mg X.base c j C0 "__eq__" 2 Fn) (O : OwnC X.K (c.cls C0)) (hne : PySem.W.findIn X.K (.ref (c.cls C0)) "__ne__" = some (some (.builtin "object.__ne__"))) (hK : X.K = c.K) (hj : j + 1 ≤ k) (hgd : X.A.guards = some []) (hr : Room k X.A) (ha : PE X a (tV c w f)) (hb : PE X b (tV c w g)) (hm : behindInMarks .NotEq b = false := by rfl) :
    PT X (.Compare a [.NotEq] [b] pos) (tT c w (tstF (oeF C0 Fn true f g))) := by
  obtain ⟨f', fd, ps, G, hm', hb'⟩ := Cq.ex
  exact pt_weak (pt_cmpR (op_one G hm' hne O.hm hb' hgd (hr.mono hj)) ha hb hm) (tst_weak fun σ H Q h => oe_weak hK (hK ▸ O) h)
end
/-! ### where methods stand -/
theorem atM_mk {K : PySem.W.Frag} {h : Heap} {C : Addr} {m qual : Str} {st : Stmt} {ps : List Str} {f : Addr} {od an : Option Addr} {sl : Array (Option Value)} {oc kV dc pm cd ct : Value}
    (a : PySem.W.findIn K (.ref C) m = some (some (.ref f))) (i : PySem.W.isFn K (.ref f) = true) (l : K.lookup f = some ⟨oc, od, .func (PySem.W.fnOf m qual (defArgs st) (defBody st) (defScope st) .none kV dc pm an cd ct), sl⟩) (c : PySem.W.codeIn K cd qual = true) (k : PySem.W.keepIn K (.ref f) = true)
    (hb : ∀ (kV doc pm : Value) (an : Option Addr) (cdv ct : Value) (us : List Value), us.length = ps.length → bindArgs (PySem.W.fnOf m qual (defArgs st) (defBody st) (defScope st) .none kV doc pm an cdv ct) ⟨us, []⟩ = pure (ps.zip us)) : AtM K C m qual st ps :=
  ⟨f, _, fun_mk (st := st) l c k, ⟨a, i, k⟩, (fun_mk (st := st) l c k).binds hb⟩
theorem atI_mk {K : PySem.W.Frag} {mg : Str → Option Value} {h : Heap} {C : Addr} {x qual : Str} {st : Stmt} {ps : List Str} {f : Addr} {od an : Option Addr} {sl : Array (Option Value)} {oc kV dc pm cd ct : Value} (X : K.In h) (G : h.Ns mainGlobals mg)
    (mk : PySem.W.makesIn K C = true) (kc : PySem.W.keepIn K (.ref C) = true) (aC : PySem.W.nsIn K mainGlobals x = some (some (.ref C)))
    (a : PySem.W.findIn K (.ref C) "__init__" = some (some (.ref f))) (i : PySem.W.isFn K (.ref f) = true) (l : K.lookup f = some ⟨oc, od, .func (PySem.W.fnOf "__init__" qual (defArgs st) (defBody st) (defScope st) .none kV dc pm an cd ct), sl⟩) (c : PySem.W.codeIn K cd qual = true) (k : PySem.W.keepIn K (.ref f) = true)
    (hb : ∀ (kV doc pm : Value) (an : Option Addr) (cdv ct : Value) (us : List Value), us.length = ps.length → bindArgs (PySem.W.fnOf "__init__" qual (defArgs st) (defBody st) (defScope st) .none kV doc pm an cdv ct) ⟨us, []⟩ = pure (ps.zip us)) : AtI K mg C x qual st ps :=
  ⟨f, _, fun_mk (st := st) l c k, ⟨mk, a, i, kc⟩, PySem.W.mg_of X G aC, (fun_mk (st := st) l c k).binds hb⟩
end PV

set_option maxHeartbeats 2000000
namespace PV
open PySem PySem.Spec L2 PyProof.Rows
/-! ### sorted, over data -/
theorem collect_tup {prog : Program} {w : World} {A : Around} {E : Value → Shared → Prop} {s : Shared} {l : Addr} {vs : List Value} {Q : List Value → Shared → Prop} (hl : IsTup s.heap l vs.toArray)
    (h : Q vs { s with heap := (s.heap.push (seqObj "list" #[] 0)).update s.heap.objs.size (Obj.mapSeq (· ++ vs.toArray)) }) (hsz : vs.length ≤ sizeLine) :
    wpAny (model prog w) A (collect (.ref l)) Q E s := by
  obtain ⟨o, ho, hc, n, hd⟩ := id hl
  unfold collect
  refine wpAny_bind (wpAny_runValue (codeAny_builtin entry_proto_collect' ?_))
  show wpAny _ _ (do again (.builtin "list.__iadd__" ⟨[← newList [], .ref l], []⟩)) _ _ s
  refine wpAny_bind (wpAny_newList (wpAny_pure ⟨Code.quiet_builtin _ (by decide +kernel), codeAny_builtin entry_list_iadd' ?_⟩))
  show wpAny _ _ (Builtin.List.listExtendWith (.ref s.heap.objs.size) (.ref l) (.ref s.heap.objs.size)) _ _ { s with heap := s.heap.push (seqObj "list" #[] 0) }
  unfold Builtin.List.listExtendWith
  have ho' : (s.heap.push (seqObj "list" #[] 0)).get? l = some o := Heap.get?_push_of_some _ ho
  refine wpAny_bind (wpAny_typeOf (T := "tuple") ⟨o, ho', hc⟩ ?_)
  have ht : (Value.type "tuple" == Value.type "tuple") = true := by rfl
  rw [if_pos (by rw [ht]; simp)]
  refine wpAny_bind (listItems_at ho' hd ?_)
  refine wpAny_bind (listItems_at (xs := #[]) (n := 0) (Heap.get?_push_size _ rfl) rfl ?_)
  rw [if_neg (by simp)]
  refine wpAny_bind (listUpdate_at (xs := #[]) (n := 0) (Heap.get?_push_size _ rfl) rfl ?_ (Nat.zero_le _) (by show (#[] ++ vs.toArray).size ≤ sizeLine + 1; simp only [Array.size_append, List.size_toArray, List.length_nil]; omega))
  refine wpAny_pure ?_
  show wpAny (model prog w) A (do
      let o ← load s.heap.objs.size
      match o.data with
      | .seq xs _ => pure xs.toList
      | _ => unsupported "internal:collect") Q E { s with heap := (s.heap.push (seqObj "list" #[] 0)).update s.heap.objs.size (Obj.mapSeq (· ++ vs.toArray)) }
  refine wpAny_bind (wpAny_load (get?_update_seq (Heap.get?_push_size _ rfl) _) ?_)
  show wpAny _ _ (pure ((#[] : Array Value) ++ vs.toArray).toList) Q E _
  rw [show ((#[] : Array Value) ++ vs.toArray).toList = vs by simp]
  exact wpAny_pure h
section
open PySem.W PySem.Calls
variable {prog : Program} {w : World} {A : Around} {E : Value → Shared → Prop} {s : Shared} {β : Type} {vs : List Value} {bs : List β} {enc : β → PyData} {R : Value → β → Prop}
theorem sorted_data_tup {l : Addr} {Q : Value → Shared → Prop} (hl : IsTup s.heap l vs.toArray) (e : EachIs R vs bs) (er : EachIs (fun v b => ∃ as, Reads s.heap v (enc b) as) vs bs) (hal : AllAlike (bs.map enc)) (hk : Sortable (bs.map enc)) (hL : bs.length ≤ sizeLine)
    (hu : ∀ b, b ∈ bs → A.units + 2 + (enc b).depth < cLine) (h : ∀ out, out.length = bs.length → EachIs R out (bs.mergeSort (dataLe false enc)) → Q (.ref (s.heap.objs.size + 1)) { s with heap := sortedAll s.heap vs (List.toArray out) }) :
    wpAny (model prog w) A (call (.builtin "sorted") [.ref l]) Q E s := by
  have er' : EachIs (fun v b => ∃ as, Reads (sortingHeap (copyHeap s.heap vs) (s.heap.objs.size + 1) vs) v (enc b) as) vs bs := er.mono fun _ _ ⟨as, r⟩ => ⟨as, PyProof.Rows.Reads.keeps (fun _ _ => sorting_copy_old) r⟩
  have hL' : vs.length ≤ sizeLine := by rw [e.length]; exact hL
  have S := SortsAt.data (prog := prog) (w := w) (A := A.in1.in1) (s := { s with heap := sortingHeap (copyHeap s.heap vs) (s.heap.objs.size + 1) vs }) (each_map (R := fun v d => ∃ as, Reads (sortingHeap (copyHeap s.heap vs) (s.heap.objs.size + 1) vs) v d as) enc er') hal hk (bound_map (A := A.in1.in1) hu)
  have hq := h _ (by rw [sortVals_length false rfl]; exact e.length) (sortVals_data false e er' hal)
  refine call_function_entry_kw kind_sorted plain_sorted entry_sorted (args_sorted1 _) ?_
  unfold Builtin.«sorted»
  refine wpAny_bind (m := checkCount "sorted" 1 1 _) (wpAny_pure ?_)
  refine wpAny_bind (collect_tup hl ?_ hL')
  refine wpAny_bind (wpAny_newList ?_ hL')
  have hsz : ((s.heap.push (seqObj "list" #[] 0)).update s.heap.objs.size (Obj.mapSeq (· ++ vs.toArray))).objs.size = s.heap.objs.size + 1 := by
    rw [Heap.size_update, size_push']
  show wpAny _ _ _ _ _ { s with heap := copyHeap s.heap vs }
  rw [hsz]
  refine wpAny_bind (wpAny_holding (wpAny_call_entry_kw slot_list_sort ⟨_, copyHeap_at s.heap vs, rfl⟩ entry_list_sort ?body (args_list_sort _)))
  case body =>
    show wpAny (model prog w) A.in1.in1 (Builtin.«list.sort» ⟨[.ref (s.heap.objs.size + 1)], []⟩) _ _ _
    refine wpAny_mono (list_sort_vals (s := { s with heap := copyHeap s.heap vs }) (P := fun f s' => f = .done (.ret .none) ∧ Q (.ref (s.heap.objs.size + 1)) s') (copyHeap_at s.heap vs) S hL' ⟨rfl, hq⟩) (fun f s' hf => ?_) fun _ _ e => e
    obtain ⟨rfl, hq⟩ := hf
    exact ⟨_, rfl, wpAny_pure ⟨_, rfl, hq⟩⟩
end
abbrev srt {β : Type} (k : β → PyData) (bs : List β) : List β := bs.mergeSort (PySem.W.dataLe false k)
def rSortD (K : PySem.W.Frag) : List V → Hp → VK → Prop := fun vs H Q => ∃ (a : Addr) (bs : List (PyData × V)), vs = [.ref a] ∧ (SqL K H a (bs.map (·.2)) ∨ SqT K H a (bs.map (·.2))) ∧ (∀ b ∈ bs, Dp K H b.2 b.1) ∧ PySem.W.AllAlike (bs.map (·.1)) ∧ PySem.W.Sortable (bs.map (·.1)) ∧ (∀ b ∈ bs, b.1.depth ≤ 60) ∧
  ∀ p, H p = none → Q (.ref p) (L2.upd H p (.lst ((srt (fun b : PyData × V => b.1) bs).map (·.2))))
theorem each_vals {bs : List (PyData × V)} {us : List Value} (r : Vals (bs.map (·.2)) us) : PySem.W.EachIs (fun u (b : PyData × V) => RelV b.2 u) us bs := by
  induction bs generalizing us with
  | nil => cases r; exact .nil
  | cons b bs ih => cases r with | cons h t => exact .cons h (ih t)
theorem vals_each {bs : List (PyData × V)} {us : List Value} (r : PySem.W.EachIs (fun u (b : PyData × V) => RelV b.2 u) us bs) : Vals (bs.map (·.2)) us := by
  induction r with
  | nil => exact .nil
  | cons h t ih => exact .cons h ih
theorem each_and {α β : Type} {R S : α → β → Prop} {as : List α} {bs : List β} (h : PySem.W.EachIs R as bs) (k : ∀ a b, b ∈ bs → R a b → S a b) : PySem.W.EachIs S as bs := by
  induction h with
  | nil => exact .nil
  | cons h t ih => exact .cons (k _ _ List.mem_cons_self h) (ih fun a b hb => k a b (List.mem_cons_of_mem _ hb))
theorem cr_sortedD {X : Cx} (hu : X.A.units + 65 < cLine) : CallR X (.builtin "sorted") (rSortD X.K) := by
  intro pins s σ H vs us Q I r h
  obtain ⟨a, bs, rfl, hs, hd, hal, hk, hdp, q⟩ := h
  rw [Vals.ref1 r]
  have fin : ∀ its : List Value, Vals (bs.map (·.2)) its → bs.length ≤ sizeLine → ∀ out : List Value, out.length = bs.length → PySem.W.EachIs (fun u (b : PyData × V) => RelV b.2 u) out (srt (fun b : PyData × V => b.1) bs) → L2.EP X pins σ Q (.ref (s.heap.objs.size + 1)) { s with heap := sortedAll s.heap its (List.toArray out) } := fun its rv hz out hl he => by
    obtain ⟨ep, he'⟩ := PyProof.Rows.sortedAll_at s.heap its out.toArray
    have rv' := vals_each he
    have hlen : ((srt (fun b : PyData × V => b.1) bs).map (·.2)).length ≤ sizeLine := by rw [List.length_map, List.length_mergeSort]; exact hz
    exact ⟨.ref _, L2.upd H (s.heap.objs.size + 1) (.lst ((srt (fun b : PyData × V => b.1) bs).map (·.2))), I.laid (t' := s.toks) (fun _ _ => PyProof.Rows.sortedAll_old) (Nat.le_succ _) ⟨hlen, out, ep, rv', he'⟩, rfl, q _ (I.hok.fresh (Nat.le_succ _))⟩
  have er : ∀ its : List Value, Vals (bs.map (·.2)) its → PySem.W.EachIs (fun v (b : PyData × V) => ∃ as, Reads s.heap v b.1 as) its bs := fun its rv =>
    each_and (each_vals rv) fun u b hb hr => Dp.reads I b.1 b.2 u (hd b hb) hr
  have hu' : ∀ b, b ∈ bs → X.A.units + 2 + b.1.depth < cLine := fun b hb => by have := hdp b hb; omega
  rcases hs with hs | hs
  · obtain ⟨its, rv, hl, hz⟩ := I.list hs
    rw [List.length_map] at hz
    exact PySem.W.sorted_data (enc := fun b : PyData × V => b.1) hl.isList (each_vals rv) (er its rv) hal hk hz hu' fun out hl he => fin its rv hz out hl he
  · obtain ⟨its, rv, hl, hz⟩ := I.tuple hs
    rw [List.length_map] at hz
    exact sorted_data_tup (enc := fun b : PyData × V => b.1) hl (each_vals rv) (er its rv) hal hk hz hu' fun out hl he => fin its rv hz out hl he
/-- rows that sorted takes -/
def tupC : P → Bool
  | .tup (_ :: _) => true
  | _ => false
def plnC : P → Bool
  | .int _ => true
  | .str _ => true
  | .bl _ => true
  | .lst _ => true
  | _ => false
def srtOk (ps : List P) : Bool := (ps.all (dat 59)) && (ps.all fun p => ps.all fun q => PySem.W.alike (toD p) (toD q)) && (ps.all tupC || ps.all plnC)
def sortP : List P → Option Rv
  | [.lst ps] => if srtOk ps = true then some (.own (.lst (srt toD ps))) else none
  | [.tup ps] => if srtOk ps = true then some (.own (.lst (srt toD ps))) else none
  | _ => none
theorem rps_zip {c : Ctx} {H : Hp} : ∀ {ps : List P} {vs : List V}, Rps c H ps vs → (ps.zip vs).map (·.1) = ps ∧ (ps.zip vs).map (·.2) = vs ∧ ∀ x ∈ ps.zip vs, Rp c H x.1 x.2
  | [], _, r => by rw [rps_nil_inv r]; simp
  | p :: ps, vs, r => by
    obtain ⟨v, t, rfl, h1, h2⟩ := rps_inv r
    obtain ⟨a, b, d⟩ := rps_zip h2
    refine ⟨by rw [List.zip_cons_cons, List.map_cons, a], by rw [List.zip_cons_cons, List.map_cons, b], fun x hx => ?_⟩
    rw [List.zip_cons_cons, List.mem_cons] at hx
    rcases hx with rfl | hx
    · exact h1
    · exact d x hx
theorem rps_of {c : Ctx} {H : Hp} : ∀ {zs : List (P × V)}, (∀ x ∈ zs, Rp c H x.1 x.2) → Rps c H (zs.map (·.1)) (zs.map (·.2))
  | [], _ => rps_nil
  | z :: zs, h => rps_cons (h z List.mem_cons_self) (rps_of fun x hx => h x (List.mem_cons_of_mem _ hx))
theorem srt_post {c : Ctx} {F H : Hp} {ps : List P} {vs : List V} (l : Le F H) (r : Rps c F ps vs) (hk : srtOk ps = true) : ∃ bs : List (PyData × V), bs.map (·.2) = vs ∧ (∀ b ∈ bs, Dp c.K H b.2 b.1) ∧ PySem.W.AllAlike (bs.map (·.1)) ∧ PySem.W.Sortable (bs.map (·.1)) ∧ (∀ b ∈ bs, b.1.depth ≤ 60) ∧
    Rps c F (srt toD ps) ((srt (fun b : PyData × V => b.1) bs).map (·.2)) := by
  obtain ⟨e1, e2, e3⟩ := rps_zip r
  unfold srtOk at hk
  simp only [Bool.and_eq_true, List.all_eq_true] at hk
  obtain ⟨⟨k1, k2⟩, k3⟩ := hk
  have mem1 : ∀ x ∈ ps.zip vs, x.1 ∈ ps := fun x hx => (List.of_mem_zip hx).1
  have ef : (ps.zip vs).map (fun x => toD x.1) = ps.map toD := by
    conv => rhs; rw [← e1]
    rw [List.map_map]; rfl
  refine ⟨(ps.zip vs).map fun x => (toD x.1, x.2), by rw [List.map_map]; exact e2, ?_, ?_, ?_, ?_, ?_⟩
  · intro b hb
    obtain ⟨x, hx, rfl⟩ := List.mem_map.mp hb
    exact dp_of 59 x.1 x.2 (k1 _ (mem1 x hx)) (Rp.mono l _ _ (e3 x hx))
  · rw [List.map_map]
    show PySem.W.AllAlike ((ps.zip vs).map fun x => toD x.1)
    rw [ef]
    intro d hd d' hd'
    obtain ⟨p, hp, rfl⟩ := List.mem_map.mp hd
    obtain ⟨q, hq, rfl⟩ := List.mem_map.mp hd'
    exact k2 p hp q hq
  · rw [List.map_map]
    show PySem.W.Sortable ((ps.zip vs).map fun x => toD x.1)
    rw [ef]
    rcases Bool.or_eq_true _ _ ▸ k3 with h | h
    · left
      intro d hd
      obtain ⟨p, hp, rfl⟩ := List.mem_map.mp hd
      have := List.all_eq_true.mp h p hp
      cases p with
      | tup xs =>
        cases xs with
        | nil => cases this
        | cons x xs => exact ⟨toD x, toDs xs, by rw [toD, toDs]⟩
      | _ => cases this
    · right
      intro d hd
      obtain ⟨p, hp, rfl⟩ := List.mem_map.mp hd
      have := List.all_eq_true.mp h p hp
      cases p <;> first | (cases this; done) | (unfold toD; exact ⟨by simp, by simp⟩)
  · intro b hb
    obtain ⟨x, hx, rfl⟩ := List.mem_map.mp hb
    have := (dat_lay 59 x.1 (k1 _ (mem1 x hx))).2
    show (toD x.1).depth ≤ 60
    omega
  · have s1 : (srt (fun x : P × V => toD x.1) (ps.zip vs)).map (·.1) = srt toD ps := by
      rw [show srt toD ps = srt toD ((ps.zip vs).map (·.1)) by rw [e1]]
      exact List.map_mergeSort fun a _ b _ => rfl
    have s2 : srt (fun b : PyData × V => b.1) ((ps.zip vs).map fun x => (toD x.1, x.2)) = (srt (fun x : P × V => toD x.1) (ps.zip vs)).map fun x => (toD x.1, x.2) := by
      symm
      exact List.map_mergeSort fun a _ b _ => rfl
    rw [s2, List.map_map, ← s1]
    exact rps_of fun x hx => e3 x (List.mem_mergeSort.mp hx)
theorem v_sort {c : Ctx} : CalV c (rSortD c.K) sortP := by
  intro F H ps xs res Q l h e k
  unfold sortP at e
  split at e
  · split at e
    · rename_i qs hk
      cases e
      obtain ⟨v, rfl, h1⟩ := rbs1 h
      obtain ⟨a, vs, rfl, q, r⟩ := h1.lst l
      obtain ⟨bs, b1, b2, b3, b4, b5, b6⟩ := srt_post l r hk
      exact ⟨a, bs, rfl, .inl (by rw [b1]; exact .of q), b2, b3, b4, b5, fun p hp => k _ _ _ (gr_lst l hp) (rn_lst l hp b6)⟩
    · cases e
  · split at e
    · rename_i qs hk
      cases e
      obtain ⟨v, rfl, h1⟩ := rbs1 h
      obtain ⟨a, vs, rfl, q, r, z⟩ := h1.tup l
      obtain ⟨bs, b1, b2, b3, b4, b5, b6⟩ := srt_post l r hk
      exact ⟨a, bs, rfl, .inr (by rw [b1]; exact q), b2, b3, b4, b5, fun p hp => k _ _ _ (gr_lst l hp) (rn_lst l hp b6)⟩
    · cases e
  · cases e
theorem bb_sorted : bootBuiltins "sorted" = some (.builtin "sorted") := by decide +kernel
end PV

set_option maxHeartbeats 2000000
namespace PV
open PySem PySem.Spec L2 PyProof.Rows
/-! ### min of a list of data: the item itself -/
theorem dpAll_of {K : PySem.W.Frag} {H : Hp} : ∀ {bs : List (PyData × V)}, (∀ b ∈ bs, Dp K H b.2 b.1) → DpAll K H (bs.map (·.2)) (bs.map (·.1))
  | [], _ => .nil
  | b :: bs, h => .cons (h b List.mem_cons_self) (dpAll_of fun x hx => h x (List.mem_cons_of_mem _ hx))
theorem minD_mem : ∀ (xs : List PyData) (x : PyData), PySem.W.minD x xs ∈ x :: xs
  | [], x => List.mem_singleton.mpr rfl
  | y :: xs, x => by
    unfold PySem.W.minD
    rw [List.foldl_cons]
    have := minD_mem xs (if PySem.W.dataLt y x = true then y else x)
    unfold PySem.W.minD at this
    rcases List.mem_cons.mp this with h | h
    · rw [h]
      by_cases z : PySem.W.dataLt y x = true
      · rw [if_pos z]; simp
      · rw [if_neg z]; simp
    · simp [h]
def rMinD (K : PySem.W.Frag) : List V → Hp → VK → Prop := fun vs H Q => ∃ (a : Addr) (b0 : PyData × V) (bt : List (PyData × V)), vs = [V.ref a] ∧ SqL K H a ((b0 :: bt).map (·.2)) ∧ (∀ b ∈ b0 :: bt, Dp K H b.2 b.1) ∧ PySem.W.AlikeAll ((b0 :: bt).map (·.1)) ∧ PyData.depthAll ((b0 :: bt).map (·.1)) ≤ 60 ∧
  ∀ b ∈ b0 :: bt, b.1 = PySem.W.minD b0.1 (bt.map (·.1)) → Q b.2 H
theorem cr_minD {X : Cx} (hc : X.calm = true) (hu : X.A.units + 65 < cLine) : CallR X (.builtin "min") (rMinD X.K) := by
  intro pins s σ H vs us Q I r h
  obtain ⟨a, b0, bt, rfl, hs, hd, hal, hdp, q⟩ := h
  obtain ⟨its, rv, hl, hz⟩ := I.list hs
  rw [Vals.ref1 r]
  obtain ⟨as, hr⟩ := Dp.readsAll I _ _ its (dpAll_of hd) rv
  have hr' : ReadsAll s.heap its.toArray.toList (b0.1 :: bt.map fun b => b.1) as := hr
  have hal' : PySem.W.AlikeAll (b0.1 :: bt.map fun b => b.1) := hal
  refine PySem.W.min_list_data (I.ok.hd hc) hl.isList (x := b0.1) (xs := bt.map fun b => b.1) (as := as) hr' hal' (by show X.A.units + 1 + _ < _; simp only [List.map_cons] at hdp; omega) fun i v h' tk bs hv hR hk => ?_
  have hv' : its[i]? = some v := by simpa using hv
  have hlen := rv.length
  have hil := (List.getElem?_eq_some_iff.mp hv').1
  have hb : (b0 :: bt)[i]? = some ((b0 :: bt)[i]'(by rw [List.length_map] at hlen; omega)) := List.getElem?_eq_getElem _
  generalize (b0 :: bt)[i]'(by rw [List.length_map] at hlen; omega) = b at hb
  have hbm : b ∈ b0 :: bt := List.mem_of_getElem? hb
  obtain ⟨u, hu1, hu2⟩ := rv.get (i := i) (x := b.2) (by rw [List.getElem?_map, hb]; rfl)
  rw [hv'] at hu1
  cases hu1
  obtain ⟨as2, hR2⟩ := Dp.reads I b.1 b.2 v (hd b hbm) hu2
  have hR3 : Reads h' v b.1 as2 := PyProof.Rows.Reads.keeps hk hR2
  have hmem : PySem.W.minD b0.1 (bt.map (·.1)) ∈ (b0 :: bt).map (·.1) := minD_mem _ _
  have e : b.1 = PySem.W.minD b0.1 (bt.map (·.1)) := PySem.W.alike_unique _ _ v _ _ (hal.1 _ (List.mem_map_of_mem hbm) _ hmem) hR3 hR
  exact ⟨b.2, H, I.kept (t' := tk) hk, hu2, q b hbm e⟩
theorem toD_inj : ∀ (n : Nat) (p q : P), dat n p = true → dat n q = true → toD p = toD q → p = q := by
  have row : ∀ (n : Nat), (∀ p q : P, dat n p = true → dat n q = true → toD p = toD q → p = q) → ∀ xs ys : List P, xs.all (dat n) = true → ys.all (dat n) = true → toDs xs = toDs ys → xs = ys := fun n ih xs => by
    induction xs with
    | nil => intro ys _ _ h; cases ys with | nil => rfl | cons y ys => rw [toDs, toDs] at h; cases h
    | cons x xs ihx =>
      intro ys hx hy h
      cases ys with
      | nil => rw [toDs, toDs] at h; cases h
      | cons y ys =>
        rw [toDs, toDs] at h
        obtain ⟨h1, h2⟩ := List.cons.inj h
        rw [List.all_cons, Bool.and_eq_true] at hx hy
        rw [ih x y hx.1 hy.1 h1, ihx ys hx.2 hy.2 h2]
  intro n
  induction n with
  | zero =>
    intro p q hp hq h
    cases p <;> first | (simp [dat] at hp; done) | (cases q <;> first | (simp [dat] at hq; done) | (simp only [toD] at h; cases h; rfl) | (simp only [toD] at h; cases h; done))
  | succ n ih =>
    intro p q hp hq h
    cases p <;> first | (simp [dat] at hp; done) | (cases q <;> first | (simp [dat] at hq; done) | (simp only [toD] at h; cases h; done) | (simp only [toD] at h; cases h; rfl) | (simp only [toD] at h; injection h with h; rw [row n ih _ _ hp hq h]))
def mnP (p : P) (ps : List P) : P := ps.foldl (fun a y => if PySem.W.dataLt (toD y) (toD a) = true then y else a) p
theorem mnP_D : ∀ (ps : List P) (p : P), toD (mnP p ps) = PySem.W.minD (toD p) (ps.map toD)
  | [], _ => rfl
  | y :: ps, p => by
    unfold mnP PySem.W.minD
    rw [List.foldl_cons, List.map_cons, List.foldl_cons]
    have := mnP_D ps (if PySem.W.dataLt (toD y) (toD p) = true then y else p)
    unfold mnP PySem.W.minD at this
    rw [this]
    congr 1
    by_cases z : PySem.W.dataLt (toD y) (toD p) = true
    · rw [if_pos z, if_pos z]
    · rw [if_neg z, if_neg z]
theorem mnP_mem : ∀ (ps : List P) (p : P), mnP p ps ∈ p :: ps
  | [], p => List.mem_singleton.mpr rfl
  | y :: ps, p => by
    unfold mnP
    rw [List.foldl_cons]
    have := mnP_mem ps (if PySem.W.dataLt (toD y) (toD p) = true then y else p)
    unfold mnP at this
    rcases List.mem_cons.mp this with h | h
    · rw [h]
      by_cases z : PySem.W.dataLt (toD y) (toD p) = true
      · rw [if_pos z]; simp
      · rw [if_neg z]; simp
    · simp [h]
def minOk (ps : List P) : Bool := ps.all (dat 59) && (ps.all fun p => ps.all fun q => PySem.W.alike (toD p) (toD q)) && ps.all fun p => !p.isNon
def minDP : List P → Option Rv
  | [.lst (p :: ps)] => if minOk (p :: ps) = true then some (.val (mnP p ps)) else none
  | _ => none
theorem toD_non {p : P} (h : dat 59 p = true) (hn : p.isNon = false) : toD p ≠ .none := by
  cases p <;> first | (cases hn; done) | (simp [dat] at h; done) | (rw [toD]; simp)
theorem depth59 {ps : List P} (h : ps.all (dat 59) = true) : PyData.depthAll (ps.map toD) ≤ 60 := by
  have h2 : dat 60 (.lst ps) = true := h
  have := (dat_lay 60 _ h2).2
  rw [toD, PyData.depth, toDs_map] at this
  omega
theorem v_minD {c : Ctx} : CalV c (rMinD c.K) minDP := by
  intro F H ps xs res Q l h e k
  unfold minDP at e
  split at e
  · split at e
    · rename_i p qs hk
      cases e
      obtain ⟨v, rfl, h1⟩ := rbs1 h
      obtain ⟨a, vs, rfl, q, r⟩ := h1.lst l
      obtain ⟨v0, vt, rfl, r0, rt⟩ := rps_inv r
      obtain ⟨e1, e2, e3⟩ := rps_zip rt
      unfold minOk at hk
      simp only [Bool.and_eq_true] at hk
      obtain ⟨⟨k1, k2⟩, k3⟩ := hk
      have k1' := List.all_eq_true.mp k1
      have ef : ((qs.zip vt).map fun x => (toD x.1, x.2)).map (·.1) = qs.map toD := by
        rw [List.map_map]
        conv => rhs; rw [← e1]
        rw [List.map_map]; rfl
      have es : ((qs.zip vt).map fun x => (toD x.1, x.2)).map (·.2) = vt := by rw [List.map_map]; exact e2
      have mem1 : ∀ x ∈ qs.zip vt, x.1 ∈ qs := fun x hx => (List.of_mem_zip hx).1
      refine ⟨a, (toD p, v0), (qs.zip vt).map fun x => (toD x.1, x.2), rfl, ?_, ?_, ?_, ?_, ?_⟩
      · rw [List.map_cons, es]; exact .of q
      · intro b hb
        rcases List.mem_cons.mp hb with rfl | hb
        · exact dp_of 59 p v0 (k1' p List.mem_cons_self) (Rp.mono l _ _ r0)
        · obtain ⟨x, hx, rfl⟩ := List.mem_map.mp hb
          exact dp_of 59 x.1 x.2 (k1' _ (List.mem_cons_of_mem _ (mem1 x hx))) (Rp.mono l _ _ (e3 x hx))
      · rw [List.map_cons, ef]
        show PySem.W.AlikeAll ((p :: qs).map toD)
        refine ⟨fun d hd d' hd' => ?_, fun d hd => ?_⟩
        · obtain ⟨x, hx, rfl⟩ := List.mem_map.mp hd
          obtain ⟨y, hy, rfl⟩ := List.mem_map.mp hd'
          exact List.all_eq_true.mp (List.all_eq_true.mp k2 x hx) y hy
        · obtain ⟨x, hx, rfl⟩ := List.mem_map.mp hd
          have := List.all_eq_true.mp k3 x hx
          exact toD_non (k1' x hx) (by simpa using this)
      · rw [List.map_cons, ef]
        exact depth59 k1
      · intro b hb he
        rw [ef] at he
        have he2 : b.1 = toD (mnP p qs) := by rw [mnP_D]; exact he
        have hm := mnP_mem qs p
        rcases List.mem_cons.mp hb with rfl | hb
        · have := toD_inj 59 _ _ (k1' p List.mem_cons_self) (k1' _ hm) he2
          rw [← this] at k
          exact give l k r0
        · obtain ⟨x, hx, rfl⟩ := List.mem_map.mp hb
          have := toD_inj 59 _ _ (k1' _ (List.mem_cons_of_mem _ (mem1 x hx))) (k1' _ hm) he2
          rw [← this] at k
          exact give l k (e3 x hx)
    · cases e
  · cases e
end PV

set_option maxHeartbeats 2000000
namespace PV
open PySem PySem.Spec L2 PyProof.Rows
/-! ### a list's methods that leave it as it is -/
def rCountD (K : PySem.W.Frag) : V → List V → Hp → VK → Prop := fun x xs H Q => ∃ (a : Addr) (y : V) (d : PyData) (ds : List PyData), x = V.ref a ∧ xs = [y] ∧ Dp K H (V.ref a) (.list ds) ∧ Dp K H y d ∧
  SeqAt.shaped (.list ds) = true ∧ SeqAt.shaped d = true ∧ Q (.int (ds.countP fun z => PyData.eqv z d : Nat)) H
theorem mt_countD {X : Cx} (hu : X.A.units + 65 < cLine) : MtR X "list.count" (rCountD X.K) := by
  intro pins s σ H x xs v us Q I rx rxs h
  obtain ⟨a, y, d, ds, rfl, rfl, hl, hy, sl, sd, q⟩ := h
  cases rx
  cases rxs with
  | cons ry rt =>
    rename_i uy ut
    cases rt
    obtain ⟨bs, r1⟩ := Dp.reads I d y uy hy ry
    have hroom : X.A.units + 1 + min (PyData.depthAll ds) d.depth < cLine := room_in_shaped sd hu
    cases hl with
    | lst hs ha =>
      obtain ⟨its, rv, pl, hlen⟩ := I.list hs
      obtain ⟨as, h4⟩ := Dp.readsAll I ds _ its ha rv
      exact SeqAt.count_list_data pl.isList (show ReadsAll s.heap its.toArray.toList ds as from h4) r1 (PyData.plainAll_of_canLay0 _ (SeqAt.canLay_of_shaped sl)) (PyData.plain_of_canLay0 _ (SeqAt.canLay_of_shaped sd)) hroom ⟨.int _, H, I.tok _, ⟨_, rfl⟩, q⟩
def pmF (o : List P → Option Rv) (f : M Rs) (fa : M (List Rs)) : M Rs := fun π => (f π).bind fun r π1 => match rdP π1 r with
  | some (.lst _) => (fa π1).bind fun rs => opN o (r :: rs)
  | _ => .bad
section
variable {X : Cx} {c : Ctx} {w : Wi} {e ob : Expr} {es : List Expr} {name : Str} {apos cpos : Pos} {id : String} {r : V → List V → Hp → VK → Prop} {o : List P → Option Rv} {fo : M Rs} {fa : M (List Rs)}
theorem pm_weak (hv : CalV c (fun vs H Q => ∃ x xs, vs = x :: xs ∧ r x xs H Q) o) : ∀ σ H Q, tE c w (pmF o fo fa) σ H Q → tBM c.K "list" r (tE c w fo) (tR c w fa) σ H Q := fun σ H Q ⟨F, π, gg, s, po⟩ => by
  refine ⟨F, π, gg, s, (Po.split po).mono fun r1 π1 F1 H1 t1 s1 p1 x hx => ?_⟩
  cases e1 : rdP π1 r1 with
  | none => simp only [e1] at p1; exact p1.elim
  | some q =>
    simp only [e1] at p1
    cases q with
    | lst qs =>
      obtain ⟨a, vs, rfl, h1, h2⟩ := (hx.rb s1 e1).lst s1.le
      refine ⟨.inl ⟨rfl, vs, .of h1⟩, F1, π1, w.mono _ _ t1.le gg, s1, (Po.split p1).mono fun rs π2 F2 H2 t2 s2 p2 xs hxs => ?_⟩
      unfold opN at p2
      cases e2 : rds π2 (r1 :: rs) with
      | none => rw [e2] at p2; exact p2.elim
      | some ps =>
        rw [e2] at p2
        obtain ⟨rv, e3, k⟩ := outR_post s2 p2
        have hxx : RRs c π H F2 π2 σ H2 (r1 :: rs) (.ref a :: xs) := ⟨.ref a, xs, rfl, hx.step t2, hxs.base t1⟩
        obtain ⟨x', xs', e4, h4⟩ := hv F2 H2 ps (.ref a :: xs) rv Q s2.le (hxx.rbs s2 e2) e3 fun v F3 H3 gr rn => by
          obtain ⟨k1, k2⟩ := k v F3 H3 gr rn
          exact k1 v ((k2.base t2).base t1)
        cases e4
        exact h4
    | _ => exact p1.elim
theorem p_pm (pa : PlainAttrs "list") (slot : Slot "list" name id) (hty : typeOf (.builtin id) = pure (.type "method_descriptor")) (hm : MtR X id r) (hK : X.K = c.K) (hv : CalV c (fun vs H Q => ∃ x xs, vs = x :: xs ∧ r x xs H Q) o) (ho : PE X ob (tE c w fo)) (ha : PA X (e :: es) (tR c w fa))
    (hbase : attributeBase ob name X.env (eval ob X.env) = eval ob X.env := by rfl)
    (hfew : ((backTo cpos (starEach (e :: es) X.env)).all (fun x => !x.1) && (backToKw cpos (keywordEach [] X.env)).all (fun x => x.1.isSome)
      && decide ((e :: es).length + ([] : List Keyword).length + (if ([] : List Keyword).isEmpty then 0 else 1) < 30)) = true := by rfl)
    (hline : (apos.endLine == cpos.line) = true := by rfl) (hs : starEach (e :: es) X.env = (false, eval e X.env) :: starEach es X.env := by rfl) (hplain : (backTo cpos (starEach es X.env)).any (·.1) = false := by rfl) :
    PE X (.Call (.Attribute ob name apos) (e :: es) [] cpos) (tE c w (pmF o fo fa)) :=
  pe_weak (pe_bm pa slot hty hm ho ha hbase hfew hline hs hplain) fun σ H Q h => by rw [hK]; exact pm_weak hv σ H Q h
end
/-! count, index -/
def countP : List P → Option Rv
  | [.lst ps, q] => if dat 60 (.lst ps) = true ∧ dat 60 q = true then some (.val (.int (ps.countP fun z => eqv z q : Nat))) else none
  | _ => none
theorem count_toD {p : P} : ∀ ps : List P, ((toDs ps).countP fun z => PyData.eqv z (toD p)) = ps.countP fun z => eqv z p
  | [] => rfl
  | q :: ps => by
    rw [toDs, List.countP_cons, List.countP_cons, count_toD ps]; rfl
theorem v_count {c : Ctx} : CalV c (fun vs H Q => ∃ x xs, vs = x :: xs ∧ rCountD c.K x xs H Q) countP := by
  intro F H ps xs res Q l h e k
  unfold countP at e
  split at e
  · split at e
    · rename_i qs q hd
      cases e
      obtain ⟨v, t, rfl, h1, h2⟩ := h
      obtain ⟨u, t2, rfl, h3, h4⟩ := h2
      have : t2 = [] := h4
      subst this
      obtain ⟨a, vs, rfl, g1, g2⟩ := h1.lst l
      have d1 := dp_of 60 _ _ hd.1 (h1.rpH l)
      have s1 := dat_shaped hd.1
      unfold toD at d1 s1
      exact ⟨.ref a, [u], rfl, a, u, toD q, toDs qs, rfl, rfl, d1, dp_of 60 q u hd.2 (h3.rpH l), s1, dat_shaped hd.2, by rw [count_toD]; exact give l k mk_int⟩
    · cases e
  · cases e
def indexP : List P → Option Rv
  | [.lst ps, q] => if dat 60 (.lst ps) = true ∧ dat 60 q = true then (ps.findIdx? fun z => eqv z q).bind fun j => some (.val (.int (j : Nat))) else none
  | _ => none
theorem toDs_get : ∀ (ps : List P) (m : Nat), (toDs ps)[m]? = (ps[m]?).map toD
  | [], m => by rw [toDs]; simp
  | p :: ps, 0 => by rw [toDs]; simp
  | p :: ps, m + 1 => by rw [toDs]; simp [toDs_get ps m]
theorem v_index {c : Ctx} : CalV c (fun vs H Q => ∃ x xs, vs = x :: xs ∧ rIndexD c.K x xs H Q) indexP := by
  intro F H ps xs res Q l h e k
  unfold indexP at e
  split at e
  · split at e
    · rename_i qs q hd
      cases ej : qs.findIdx? fun z => eqv z q with
      | none => rw [ej] at e; cases e
      | some j =>
        rw [ej] at e
        cases e
        obtain ⟨v, t, rfl, h1, h2⟩ := h
        obtain ⟨u, t2, rfl, h3, h4⟩ := h2
        have : t2 = [] := h4
        subst this
        obtain ⟨a, vs, rfl, g1, g2⟩ := h1.lst l
        have d1 := dp_of 60 _ _ hd.1 (h1.rpH l)
        have s1 := dat_shaped hd.1
        unfold toD at d1 s1
        obtain ⟨hj, hj2, hj3⟩ := List.findIdx?_eq_some_iff_getElem.mp ej
        refine ⟨.ref a, [u], rfl, a, u, toD q, toDs qs, j, toD qs[j], rfl, rfl, d1, dp_of 60 q u hd.2 (h3.rpH l), s1, dat_shaped hd.2, ?_, hj2, ?_, give l k mk_int⟩
        · rw [toDs_get, List.getElem?_eq_getElem hj]; rfl
        · intro m z' hm hz
          rw [toDs_get, List.getElem?_eq_getElem (by omega)] at hz
          cases hz
          have := hj3 m hm
          simpa [eqv] using this
    · cases e
  · cases e
/-! ### a list's methods, the arguments read where they stand -/
def MlVL (c : Ctx) (r : V → List V → Hp → VK → Prop) (o : List P → List P → Option (P × List P)) : Prop := ∀ (F H : Hp) (xs ps : List P) (vs ws : List V) (a : Addr) (q : P) (ys : List P) (Q : VK), Le F H → H a = some (.lst vs) → Rps c F xs vs → Rps c F ps ws → o xs ps = some (q, ys) →
  (∀ v us, Rp c F q v → Rps c F ys us → Q v (L2.upd H a (.lst us))) → r (.ref a) ws H Q
section
variable {X : Cx} {c : Ctx} {w : Wi} {e : Expr} {es : List Expr} {name x : Str} {apos cpos pos : Pos} {id : String} {r : V → List V → Hp → VK → Prop} {o : List P → List P → Option (P × List P)} {i : Nat} {fa : M (List Rs)}
theorem mut_postL {W : WX} {F H H0 : Hp} {π π0 : En} {σ : L2.St} {rs : List Rs} {ws : List V} {a : Addr} {Q : VK} (hv : MlVL c r o) (s : SR c F π σ H) (hr : RRs c π0 H0 F π σ H rs ws) (hσ : σ[i]? = some (some (.ref a)))
    (po : Po c W F π σ H (mutR o i rs π) (fun r' π' F' H' => ∀ v, RR c π0 H0 F' π' σ H' r' v → Q v H')) : r (.ref a) ws H Q := by
  unfold mutR at po
  cases e1 : getL π i with
  | none => rw [e1] at po; exact po.elim
  | some xs =>
    cases e2 : vals rs with
    | none => rw [e1, e2] at po; exact po.elim
    | some ps =>
      cases e3 : o xs ps with
      | none => simp only [e1, e2, e3] at po; exact po.elim
      | some qy =>
        obtain ⟨q, ys⟩ := qy
        simp only [e1, e2, e3] at po
        obtain ⟨b, vs, h1, h2, h3⟩ := s.getL e1
        rw [hσ] at h1
        cases h1
        refine hv F H xs ps vs ws a q ys Q s.le h2 h3 (vals_rps hr e2) e3 fun v us rv ru => ?_
        obtain ⟨s2, t2⟩ := s.putL e1 hσ ru
        exact po F _ t2 s2 v rv
theorem p_mutL (pa : PlainAttrs "list") (slot : Slot "list" name id) (hty : typeOf (.builtin id) = pure (.type "method_descriptor")) (hm : MtR X id r) (hv : MlVL c r o) (ho : PE X (.Name x pos) (tE c w (varF i))) (ha : PA X (e :: es) (tR c w fa))
    (hbase : attributeBase (.Name x pos) name X.env (eval (.Name x pos) X.env) = eval (.Name x pos) X.env := by rfl)
    (hfew : ((backTo cpos (starEach (e :: es) X.env)).all (fun x => !x.1) && (backToKw cpos (keywordEach [] X.env)).all (fun x => x.1.isSome)
      && decide ((e :: es).length + ([] : List Keyword).length + (if ([] : List Keyword).isEmpty then 0 else 1) < 30)) = true := by rfl)
    (hline : (apos.endLine == cpos.line) = true := by rfl) (hs : starEach (e :: es) X.env = (false, eval e X.env) :: starEach es X.env := by rfl) (hplain : (backTo cpos (starEach es X.env)).any (·.1) = false := by rfl) :
    PE X (.Call (.Attribute (.Name x pos) name apos) (e :: es) [] cpos) (tE c w (mutF o i fa)) :=
  pe_weak (pe_bm pa slot hty hm ho ha hbase hfew hline hs hplain) fun σ H Q ⟨F, π, gg, s, po⟩ => by
    unfold mutF at po
    cases e1 : getL π i with
    | none => rw [e1] at po; exact po.elim
    | some xs =>
      rw [e1] at po
      obtain ⟨sl, h1, h2⟩ := getL_at e1
      obtain ⟨a, vs, h3, h4, h5⟩ := s.getL e1
      refine ⟨F, π, gg, s, ?_⟩
      have hvar : varF i π = .ok (.bor i) π := by
        unfold varF
        rw [h1]
        cases sl with
        | own o => rfl
        | loan o => rfl
        | _ => cases h2
      rw [hvar]
      intro F1 H1 t1 s1 v hv'
      have hv2 : v = .ref a := by
        have : σ[i]? = some (some v) := hv'
        rw [h3] at this
        exact (Option.some.inj (Option.some.inj this)).symm
      subst hv2
      obtain ⟨b, vs1, q3, q4, q5⟩ := s1.getL e1
      rw [h3] at q3
      cases q3
      refine ⟨tv_list q4, F1, π, w.mono _ _ t1.le gg, s1, (Po.split (Po.from po t1)).mono fun rs π2 F2 H2 t2 s2 p2 ws hws => ?_⟩
      exact mut_postL hv s2 hws h3 (p2.mono fun r' π' F' H' t' s' k v hr => k v (RR.base hr t1 : RR c π H F' π' σ H' r' v))
end
/-! extend by a list -/
def extP : List P → List P → Option (P × List P)
  | xs, [.lst ys] => if xs.length + ys.length ≤ 1000000 then some (.non, xs ++ ys) else none
  | _, _ => none
theorem v_extend {c : Ctx} : MlVL c rExtend extP := by
  intro F H xs ps vs ws a q ys Q l h1 h2 h3 e k
  have hs := sizeLine_eq
  unfold extP at e
  split at e
  · rename_i zs
    split at e
    · cases e
      obtain ⟨v, t, rfl, r1, r2⟩ := rps_inv h3
      have := rps_nil_inv r2
      subst this
      obtain ⟨b, us, rfl, g1, g2⟩ := rp_lst r1
      have n1 := rps_len h2
      have n2 := rps_len g2
      exact ⟨a, b, vs, us, rfl, rfl, h1, l.lst g1, by omega, k _ _ mk_non (rps_append h2 g2)⟩
    · cases e
  · cases e
end PV

set_option maxHeartbeats 2000000
namespace PV
open PySem PySem.Spec L2 PyProof.Rows
/-! ### sum(lists, start) -/
def LAt (h : Heap) (a : Addr) (xs : List Value) : Prop := ∃ n, h.get? a = some { cls := .type "list", dict := none, data := .seq xs.toArray n, slots := #[] }
def catI (items : Nat → List Value) : Nat → Nat → List Value
  | _, 0 => []
  | i, k + 1 => items i ++ catI items (i + 1) k
theorem LAt.keep {h h' : Heap} {a : Addr} {xs : List Value} (x : LAt h a xs) (k : ∀ o, h.get? a = some o → h'.get? a = some o) : LAt h' a xs := let ⟨n, e⟩ := x; ⟨n, k _ e⟩
section
variable {prog : Program} {w : World} {A : Around} {R : Result → Shared → Prop} {I : Addr} {fp wr : List Addr} {G : Array GenState → Array GenState → Prop} {n : Nat} {P : Nat → Value → Prop} {St : Nat → Shared → Prop}
theorem codeAny_sum_loopL (W : WalksS prog w A.in1 I fp wr G n P St) (H : Heap) (hw : ∀ b o, H.get? b = some o → b ∉ wr) (S : Addr) (hSf : S ∉ fp) (hfpS : ∀ b ∈ fp, b < S) (hSH : H.get? S = none) (items : Nat → List Value) (hP : ∀ i v, P i v → ∃ a, v = .ref a ∧ LAt H a (items i)) :
    ∀ (k i : Nat) (s : Shared) (d : Addr) (xs : List Value) (c : Nat), n - i = k → i ≤ n → (∀ b o, H.get? b = some o → s.heap.get? b = some o) → St i s → s.heap.get? S = some { cls := .type "list", dict := none, data := .seq #[.ref d] c, slots := #[] } →
    LAt s.heap d xs → d ≠ S → d ∉ wr → xs.length + (catI items i k).length ≤ sizeLine →
    (∀ s' d', LAt s'.heap d' (xs ++ catI items i k) → (k = 0 ∧ d' = d ∨ k ≠ 0 ∧ S < d') → Moved (S :: wr) G s s' → R (.ok (.ret (.ref d'))) s') → codeAny (model prog w) A (.builtin "sum.loop" ⟨[.ref I, .ref S, rawInt 2, rawInt 0], []⟩) R s := by
  have hSw : S ∉ wr := fun h => hSf (W.sub _ h)
  have hsub : ∀ b ∈ wr, b ∈ S :: wr := fun b hb => List.mem_cons_of_mem _ hb
  have notS : ∀ {b : Addr}, b ∉ S :: wr → S ≠ b := fun hb h => hb (by rw [h]; exact List.mem_cons_self)
  have notH : ∀ {b : Addr} {o : Obj}, H.get? b = some o → S ≠ b := fun e h => by rw [← h, hSH] at e; cases e
  intro k
  induction k with
  | zero =>
    intro i s d xs c hk hi hkeep hst hS hd hdS hdw hsz hR
    have hin : i = n := by omega
    subst hin
    refine codeAny_builtin F.entry_sum_loop ?_
    rw [Around.under_plainId F.plain_sum_loop _]
    show wpAny _ A.in1 (seqItems? (.ref S) >>= _) _ _ s
    refine wpAny_bind (wpAny_seqItems hS rfl ?_)
    show wpAny _ A.in1 (tryCatch (pyNext (.ref I)) _ >>= _) _ _ s
    refine wpAny_bind (wpAny_tryCatch (W.done s _ _ hst fun s' hm => ?_))
    refine wpAny_pure (hR s' d ?_ (.inl ⟨rfl, rfl⟩) (hm.mono hsub))
    rw [show catI items i 0 = [] from rfl, List.append_nil]
    exact hd.keep fun o e => hm.heap d o hdw e
  | succ k ih =>
    intro i s d xs c hk hi hkeep hst hS hd hdS hdw hsz hR
    have hlt : i < n := by omega
    refine codeAny_builtin F.entry_sum_loop ?_
    rw [Around.under_plainId F.plain_sum_loop _]
    show wpAny _ A.in1 (seqItems? (.ref S) >>= _) _ _ s
    refine wpAny_bind (wpAny_seqItems hS rfl ?_)
    show wpAny _ A.in1 (tryCatch (pyNext (.ref I)) _ >>= _) _ _ s
    refine wpAny_bind (wpAny_tryCatch (W.item i s _ _ hlt hst fun v s' hPi hst' hm => ?_))
    obtain ⟨a, rfl, ha⟩ := hP i v hPi
    have hS' := hm.heap S _ hSw hS
    have hkeep' : ∀ b o, H.get? b = some o → s'.heap.get? b = some o := fun b o e => hm.heap b o (hw b o e) (hkeep b o e)
    have hd' : LAt s'.heap d xs := hd.keep fun o e => hm.heap d o hdw e
    have ha' : LAt s'.heap a (items i) := ha.keep fun o e => hkeep' a o e
    obtain ⟨n1, hd1⟩ := hd'
    obtain ⟨n2, ha2⟩ := ha'
    have hSlt : S < s'.heap.objs.size := Heap.lt_size hS'
    rw [show catI items i (k + 1) = items i ++ catI items (i + 1) k from rfl, List.length_append] at hsz
    show wpAny _ A.in1 ((holding [Value.ref a] (binaryOp .Add (.ref d) (.ref a))).attempt >>= _) _ _ _
    refine wpAny_bind (wpAny_attempt (wpAny_holding (PySem.P.add_list hd1 ha2 ?_ (by rw [List.size_toArray, List.size_toArray]; omega))))
    have hS1 : (s'.heap.push { cls := .type "list", data := .seq (xs.toArray ++ (items i).toArray) }).get? S = some { cls := .type "list", dict := none, data := .seq #[.ref d] c, slots := #[] } := Heap.get?_push_of_some _ hS'
    show wpAny _ A.in1 (updateSeq S (fun _ => #[.ref s'.heap.objs.size]) >>= _) _ _ _
    refine wpAny_bind (wpAny_updateSeq hS1 rfl ?_)
    have hS₂ := Heap.get?_update_self (Obj.mapSeq fun _ => #[Value.ref s'.heap.objs.size]) hS1 rfl
    refine wpAny_bind (wpAny_letGo ?_)
    refine wpAny_bind (wpAny_updateSeq hS₂ rfl (wpAny_pure ⟨plainId_quiet F.plain_sum_loop _, ih (i + 1) _ s'.heap.objs.size (xs ++ items i) _ (by omega) hlt (fun b o e => ?_) (W.frame _ s' _ s'.toks hst' (Nat.le_refl _) fun b hb o e => ?_) (Heap.get?_update_self _ hS₂ rfl) ?_ (Nat.ne_of_gt hSlt) (fun z => ?_) (by rw [List.length_append]; omega) fun s'' d'' hl'' ho'' hm'' => ?_⟩))
    · exact (Heap.get?_update_other _ _ (notH e)).trans ((Heap.get?_update_other _ _ (notH e)).trans (Heap.get?_push_of_some _ (hkeep' b o e)))
    · exact (Heap.get?_update_other _ _ (fun h : S = b => hSf (by rw [h]; exact hb))).trans ((Heap.get?_update_other _ _ (fun h : S = b => hSf (by rw [h]; exact hb))).trans (Heap.get?_push_of_some _ e))
    · refine ⟨0, (Heap.get?_update_other _ _ (Nat.ne_of_lt hSlt)).trans ((Heap.get?_update_other _ _ (Nat.ne_of_lt hSlt)).trans ?_)⟩
      rw [show (xs ++ items i).toArray = xs.toArray ++ (items i).toArray by simp]
      exact Heap.get?_push_size _ rfl
    · exact absurd (Nat.lt_trans (hfpS _ (W.sub _ z)) hSlt) (Nat.lt_irrefl _)
    · refine hR s'' d'' (by rw [show catI items i (k + 1) = items i ++ catI items (i + 1) k from rfl, ← List.append_assoc]; exact hl'') (.inr ⟨by omega, ?_⟩) (Moved.trans W.gtrans ((hm.mono hsub).then_heap (Nat.le_refl _) fun b o hb e => ?_) hm'')
      · rcases ho'' with ⟨_, rfl⟩ | h
        · exact hSlt
        · exact h.2
      · exact (Heap.get?_update_other _ _ (fun h : S = b => hb (by rw [h]; exact List.mem_cons_self))).trans ((Heap.get?_update_other _ _ (fun h : S = b => hb (by rw [h]; exact List.mem_cons_self))).trans (Heap.get?_push_of_some _ e))
end
section
variable {prog : Program} {w : World} {A : Around} {E : Value → Shared → Prop} {s : Shared}
theorem args_sum2 (a b : Value) : argsOk "sum" ⟨[a, b], []⟩ := by unfold argsOk; kernel_rfl
theorem sub_l_str : isSubtype (.type "list") (.type "str") = pure false := by rw [isSubtype_type]; kernel_rfl
theorem sub_l_bytes : isSubtype (.type "list") (.type "bytes") = pure false := by rw [isSubtype_type]; kernel_rfl
theorem sub_l_ba : isSubtype (.type "list") (.type "bytearray") = pure false := by rw [isSubtype_type]; kernel_rfl
theorem call_sumL {l d : Addr} {vs : Array Value} {xs : List Value} {items : Nat → List Value} {Q : Value → Shared → Prop} (hh : A.handled = none) (hl : s.heap.IsList l vs) (hd : LAt s.heap d xs) (hP : ∀ i v, vs[i]? = some v → ∃ a, v = .ref a ∧ LAt s.heap a (items i)) (hsz : xs.length + (catI items 0 vs.size).length ≤ sizeLine)
    (h : ∀ h' tk d', (∀ b o, s.heap.get? b = some o → h'.get? b = some o) → LAt h' d' (xs ++ catI items 0 vs.size) → (vs.size = 0 ∧ d' = d ∨ vs.size ≠ 0 ∧ s.heap.objs.size ≤ d') → Q (.ref d') { s with heap := h', toks := tk }) :
    wpAny (model prog w) A (call (.builtin "sum") [.ref l, .ref d]) Q E s := by
  refine call_function_tree F.kind_sum F.plain_sum F.entry_sum (args_sum2 _ _) ?_
  unfold Builtin.«sum»
  simp only [List.length_cons, List.length_nil]
  rw [if_neg (by decide)]
  refine wpAny_bind (wpAny_of_eq (show Builtin.Builtins.bindParams "sum" ["start"] 0 ⟨[.ref d], []⟩ = pure [some (.ref d)] from rfl) ?_)
  refine wpAny_bind (PySem.W.iter_listW (A := A.in1) hh hl fun s₂ e W st hfp hw hk => ?_)
  refine wpAny_bind (wpAny_pure ?_)
  obtain ⟨nd, hd0⟩ := hd
  have hd2 := hk _ _ hd0
  have ty : s₂.TypeIs (.ref d) "list" := ⟨_, hd2, rfl⟩
  simp only [List.forIn_cons, List.forIn_nil]
  refine wpAny_bind (wpAny_bind (wpAny_bind (wpAny_isInstance (T := "list") (b := false) ty sub_l_str ?_)))
  simp only [Bool.false_eq_true, if_false]
  refine wpAny_pure (wpAny_bind (wpAny_bind (wpAny_isInstance (T := "list") (b := false) ty sub_l_bytes ?_)))
  simp only [Bool.false_eq_true, if_false]
  refine wpAny_pure (wpAny_bind (wpAny_bind (wpAny_isInstance (T := "list") (b := false) ty sub_l_ba ?_)))
  simp only [Bool.false_eq_true, if_false]
  refine wpAny_pure (wpAny_pure ?_)
  refine wpAny_bind (wpAny_newObj_type ?_)
  have hS1 : s.heap.objs.size < s₂.heap.objs.size := hfp _ List.mem_cons_self
  have hSf : s₂.heap.objs.size ∉ [s.heap.objs.size, l] := fun hm => Nat.lt_irrefl _ (hfp _ hm)
  have hSH : s.heap.get? s₂.heap.objs.size = none := by
    cases q : s.heap.get? s₂.heap.objs.size with
    | none => rfl
    | some o => exact absurd (Nat.lt_trans hS1 (Heap.lt_size q)) (Nat.lt_irrefl _)
  refine wpAny_pure ⟨plainId_quiet F.plain_sum_loop _, codeAny_sum_loopL W s.heap hw s₂.heap.objs.size hSf hfp hSH items hP vs.size 0 _ d xs 0 rfl (Nat.zero_le _) (fun b o e => Heap.get?_push_of_some _ (hk b o e))
    (W.frame 0 s₂ _ _ st (Nat.le_refl _) fun b _ o e => Heap.get?_push_of_some _ e) (Heap.get?_push_size _ rfl) ⟨nd, Heap.get?_push_of_some _ hd2⟩ (fun z => ?_) (hw d _ hd0) hsz fun s' d' hl' ho hm => ?_⟩
  · exact absurd (Nat.lt_trans hS1 (z ▸ Heap.lt_size hd0)) (Nat.lt_irrefl _)
  · obtain ⟨h', tk, rfl, hk'⟩ := PySem.W.moved_old e rfl (hm.drop_new (Nat.le_refl _))
    refine h h' tk d' hk' hl' ?_
    rcases ho with ho | ho
    · exact .inl ho
    · exact .inr ⟨ho.1, Nat.le_of_lt (Nat.lt_trans hS1 ho.2)⟩
end
/-- sum(lists, start) -/
def rSumL : List V → Hp → VK → Prop := fun vs H Q => ∃ (l d : Addr) (xss : List (Addr × List V)) (ys : List V), vs = [.ref l, .ref d] ∧ H l = some (.lst (xss.map fun x => V.ref x.1)) ∧ H d = some (.lst ys) ∧ (∀ x ∈ xss, H x.1 = some (.lst x.2)) ∧ ys.length + (xss.flatMap (·.2)).length ≤ sizeLine ∧
  (xss = [] → Q (.ref d) H) ∧ (xss ≠ [] → ∀ p, H p = none → Q (.ref p) (L2.upd H p (.lst (ys ++ xss.flatMap (·.2)))))
theorem cat_drop (itss : List (List Value)) : ∀ (k i : Nat), itss.length - i = k → catI (fun j => itss.getD j []) i k = (itss.drop i).flatten
  | 0, i, h => by rw [List.drop_of_length_le (by omega)]; rfl
  | k + 1, i, h => by
    have hi : i < itss.length := by omega
    rw [show catI (fun j => itss.getD j []) i (k + 1) = itss.getD i [] ++ catI (fun j => itss.getD j []) (i + 1) k from rfl, cat_drop itss k (i + 1) (by omega), List.drop_eq_getElem_cons hi, List.flatten_cons]
    congr 1
    rw [List.getD_eq_getElem?_getD, List.getElem?_eq_getElem hi]; rfl
theorem lists_of {X : Cx} {pins : List (Addr × Obj)} {σ : L2.St} {H : Hp} {s : Shared} (I : Inv X pins σ H s) : ∀ xss : List (Addr × List V), (∀ x ∈ xss, H x.1 = some (.lst x.2)) → ∃ itss : List (List Value), itss.length = xss.length ∧ Vals (xss.flatMap (·.2)) itss.flatten ∧ ∀ (i : Nat) x, xss[i]? = some x → LAt s.heap x.1 (itss.getD i [])
  | [], _ => ⟨[], rfl, .nil, fun i x e => by simp at e⟩
  | x :: xss, h => by
    obtain ⟨itss, h1, h2, h3⟩ := lists_of I xss fun y hy => h y (List.mem_cons_of_mem _ hy)
    obtain ⟨z, its, n, r, hl, e⟩ := I.lstM (h x List.mem_cons_self)
    refine ⟨its :: itss, by simp [h1], by rw [List.flatMap_cons, List.flatten_cons]; exact r.append h2, fun i y hy => ?_⟩
    cases i with
    | zero => simp at hy; subst hy; exact ⟨n, e⟩
    | succ i => exact h3 i y (by simpa using hy)
theorem cr_sumL {X : Cx} (hc : X.calm = true) : CallR X (.builtin "sum") rSumL := by
  intro pins s σ H vs us Q I r h
  obtain ⟨l, d, xss, ys, rfl, hl, hd, hx, hsz, q1, q2⟩ := h
  obtain ⟨u1, u2, rfl, r1, r2⟩ := Vals.two r
  cases r1
  cases r2
  obtain ⟨z, its, n, rv, hlen, e⟩ := I.lstM hl
  obtain ⟨z2, its2, n2, rv2, hlen2, e2⟩ := I.lstM hd
  obtain ⟨itss, h1, h2, h3⟩ := lists_of I xss hx
  have hll : its.length = xss.length := by rw [← hlen, List.length_map]
  have hfl := h2.length
  have hcat : catI (fun j => itss.getD j []) 0 its.toArray.size = itss.flatten := by
    rw [cat_drop itss _ 0 (by rw [List.size_toArray]; omega), List.drop_zero]
  refine call_sumL (items := fun j => itss.getD j []) (vs := its.toArray) (xs := its2) (I.ok.hd hc) ⟨_, e, rfl, n, rfl⟩ ⟨n2, e2⟩ (fun i v hv => ?_) (by rw [hcat, ← hlen2, ← hfl]; exact hsz) fun h' tk d' hk hl' ho => ?_
  · have hv' : its[i]? = some v := by simpa using hv
    have hi := (List.getElem?_eq_some_iff.mp hv').1
    have hxi : xss[i]? = some (xss[i]'(by omega)) := List.getElem?_eq_getElem _
    obtain ⟨u, hu1, hu2⟩ := rv.get (i := i) (x := V.ref (xss[i]'(by omega)).1) (by rw [List.getElem?_map, hxi]; rfl)
    rw [hv'] at hu1
    cases hu1
    cases hu2
    exact ⟨_, rfl, h3 i _ hxi⟩
  · rw [hcat] at hl'
    obtain ⟨n3, hl'⟩ := hl'
    by_cases z0 : xss = []
    · subst z0
      rcases ho with ⟨_, rfl⟩ | ho
      · exact ⟨.ref d', H, I.kept (t' := tk) hk, rfl, q1 rfl⟩
      · exact absurd (by rw [List.size_toArray, hll]; rfl) ho.1
    · rcases ho with ⟨ho, _⟩ | ho
      · exact absurd (List.length_eq_zero_iff.mp (by rw [List.size_toArray] at ho; omega)) z0
      · exact ⟨.ref d', L2.upd H d' (.lst (ys ++ xss.flatMap (·.2))), I.laid (t' := tk) hk ho.2 ⟨by rw [List.length_append]; exact hsz, its2 ++ itss.flatten, n3, rv2.append h2, hl'⟩, rfl, q2 z0 d' (I.hok.fresh ho.2)⟩
/-! ### a call whose arguments are taken -/
def calvR (o : List P → Option Rv) (rs : List Rs) : M Rs := fun π => match vals rs with
  | some ps => outR (o ps) π
  | none => .bad
def calvF (o : List P → Option Rv) (fa : M (List Rs)) : M Rs := fun π => (fa π).bind (calvR o)
def CalW (c : Ctx) (r : List V → Hp → VK → Prop) (o : List P → Option Rv) : Prop := ∀ (F H : Hp) (ps : List P) (xs : List V) (res : Rv) (Q : VK), Le F H → Rps c F ps xs → o ps = some res →
  (∀ v F' H', Gr F H F' H' → RN c H F' H' res v → Q v H') → r xs H Q
section
variable {X : Cx} {c : Ctx} {w : Wi} {x : Str} {p pos : Pos} {e : Expr} {es : List Expr} {fa : M (List Rs)} {id : String} {r : List V → Hp → VK → Prop} {o : List P → Option Rv}
theorem calw_weak (hv : CalW c r o) : ∀ σ H Q, tE c w (calvF o fa) σ H Q → tCB r (tR c w fa) σ H Q := fun σ H Q ⟨F, π, gg, s, po⟩ => by
  refine ⟨F, π, gg, s, (Po.split po).mono fun rs π1 F1 H1 t1 s1 p1 xs hx => ?_⟩
  unfold calvR at p1
  cases e1 : vals rs with
  | none => rw [e1] at p1; exact p1.elim
  | some qs =>
    rw [e1] at p1
    obtain ⟨rv, e3, k⟩ := outR_post s1 p1
    refine hv F1 H1 qs xs rv Q s1.le (vals_rps hx e1) e3 fun v F3 H3 gr rn => ?_
    obtain ⟨k1, k2⟩ := k v F3 H3 gr rn
    exact k1 v (k2.base t1)
theorem p_bltW (hop : CallR X (.builtin id) r) (hv : CalW c r o) (hg : Gl X x) (hm : X.mg x = none) (hb : bootBuiltins x = some (.builtin id)) (ha : PA X (e :: es) (tR c w fa)) (hn : x ≠ "__name__" := by decide) (hdb : (x == ("__debug__" : Str)) = false := by decide)
    (he : starEach (e :: es) X.env = (false, eval e X.env) :: starEach es X.env := by rfl) (hpl : (backTo pos (starEach es X.env)).any (·.1) = false := by rfl) : PE X (.Call (.Name x p) (e :: es) [] pos) (tE c w (calvF o fa)) :=
  pe_weak (pe_callB hop hg hm hb ha hn hdb he hpl) (calw_weak hv)
end
def lstsOf : List P → Option (List (List P))
  | [] => some []
  | .lst ps :: r => (lstsOf r).map (ps :: ·)
  | _ => none
def sumLP : List P → Option Rv
  | [.lst ls, .lst ys] => (lstsOf ls).bind fun xss => if ys.length + xss.flatten.length ≤ 1000000 then some (if ls.isEmpty = true then .val (.lst ys) else .own (.lst (ys ++ xss.flatten))) else none
  | _ => none
theorem lsts_rps {c : Ctx} {F H : Hp} (l : Le F H) : ∀ {ls : List P} {vs : List V} {xss : List (List P)}, lstsOf ls = some xss → Rps c F ls vs → ∃ zs : List (Addr × List V), vs = zs.map (fun x => V.ref x.1) ∧ (∀ x ∈ zs, H x.1 = some (.lst x.2)) ∧ Rps c F xss.flatten (zs.flatMap (·.2)) ∧ ls.length = zs.length
  | [], vs, xss, e, r => by
    cases e
    exact ⟨[], by rw [rps_nil_inv r]; rfl, fun x hx => by simp at hx, rps_nil, rfl⟩
  | p :: ls, vs, xss, e, r => by
    obtain ⟨v, t, rfl, r1, r2⟩ := rps_inv r
    cases p with
    | lst ps =>
      have e' : (lstsOf ls).map (ps :: ·) = some xss := e
      cases e1 : lstsOf ls with
      | none => rw [e1] at e'; cases e'
      | some yss =>
        rw [e1] at e'
        cases e'
        obtain ⟨a, us, rfl, g1, g2⟩ := rp_lst r1
        obtain ⟨zs, rfl, h1, h2, h3⟩ := lsts_rps l e1 r2
        refine ⟨(a, us) :: zs, rfl, fun x hx => ?_, by rw [List.flatten_cons, List.flatMap_cons]; exact rps_append g2 h2, by simp [h3]⟩
        rcases List.mem_cons.mp hx with rfl | hx
        · exact l.lst g1
        · exact h1 x hx
    | _ => cases e
theorem v_sumL {c : Ctx} : CalW c rSumL sumLP := by
  intro F H ps xs res Q l h e k
  have hs := sizeLine_eq
  unfold sumLP at e
  split at e
  · rename_i ls ys
    cases e1 : lstsOf ls with
    | none => rw [e1] at e; cases e
    | some xss =>
      rw [e1] at e
      simp only [Option.bind_some] at e
      split at e
      · obtain ⟨v, t, rfl, r1, r2⟩ := rps_inv h
        obtain ⟨v2, t2, rfl, r3, r4⟩ := rps_inv r2
        have := rps_nil_inv r4
        subst this
        obtain ⟨a, us, rfl, g1, g2⟩ := rp_lst r1
        obtain ⟨d, ws, rfl, g3, g4⟩ := rp_lst r3
        obtain ⟨zs, rfl, h1, h2, h3⟩ := lsts_rps l e1 g2
        have n1 := rps_len h2
        have n2 := rps_len g4
        refine ⟨a, d, zs, ws, rfl, l.lst g1, l.lst g3, h1, by omega, fun z => ?_, fun z q hq => ?_⟩
        · subst z
          have : ls = [] := List.length_eq_zero_iff.mp h3
          subst this
          cases e
          exact give l k r3
        · have : ls.isEmpty = false := by
            cases ls with
            | nil => exact absurd (List.length_eq_zero_iff.mp h3.symm) z
            | cons _ _ => rfl
          rw [this] at e
          cases e
          exact k _ _ _ (gr_lst l hq) (rn_lst l hq (rps_append g4 h2))
      · cases e
  · cases e
end PV

set_option maxHeartbeats 2000000
namespace PV
open PySem PySem.Spec L2 PyProof.Rows
/-! ### x, y = e, e' where a name is read within a comprehension -/
section
variable {X : Cx} {c : Ctx} {w : Ws} {a b : Expr} {x y : Str} {px py pt pos : Pos} {kt k2 pt2} {i j : Nat} {f g : M Rs}
theorem s_parC (hc : X.calm = true) (hN : X.N.Nodup) (hi : X.N[i]? = some x) (hj : X.N[j]? = some y) (hij : i ≠ j) (hx : Loc X.env.scope x) (hy : Loc X.env.scope y) (ha : PE X a (tE c w f)) (hb : PE X b (tE c w g))
    (hw : swappedStores [.Tuple [.Name x px, .Name y py] kt pt] (.Tuple [a, b] k2 pt2) X.env = pure none := by rfl)
    (hfx : X.fn x = true ∨ X.env.scope.names.lookup x = some .local := by first | exact .inl rfl | exact .inr rfl) (hfy : X.fn y = true ∨ X.env.scope.names.lookup y = some .local := by first | exact .inl rfl | exact .inr rfl)
    (s1 : starEach [a, b] X.env = (false, eval a X.env) :: starEach [b] X.env := by rfl) (s2 : starEach [b] X.env = (false, eval b X.env) :: starEach [] X.env := by rfl)
    (hs : swapsWithSole [.Tuple [.Name x px, .Name y py] kt pt] (.Tuple [a, b] k2 pt2) pos.line X.env = pure false := by rfl) :
    PS X (.Assign [.Tuple [.Name x px, .Name y py] kt pt] (.Tuple [a, b] k2 pt2) pos) (tS c w (parF i j f g)) :=
  ps_weak (ps_asg (pe_tup (pa_cons ha (pa_cons hb pa_nil s2) s1)) (pg_tup hc (pgs_cons (pg_name hN hi hx hfx) (pgs_cons (pg_name hN hj hy hfy) pgs_nil))) hs hw) fun D σ H ⟨F, π, gg, s, po⟩ => by
    refine ⟨F, π, gg, s, ?_⟩
    unfold parF at po
    cases e0 : f π with
    | bad => rw [e0] at po; exact po
    | exc C qs π1 => rw [e0] at po; exact fun F' H' d t s => po F' σ H' d t s
    | ok r1 π1 =>
      rw [e0] at po
      intro F1 H1 t1 s1 v hv
      refine ⟨F1, π1, w.mono _ _ t1.le gg, s1, ?_⟩
      simp only [Out.bind] at po
      cases e1 : g π1 with
      | bad => rw [e1] at po; exact po
      | exc C qs π2 => rw [e1] at po; exact fun F' H' d t s => po F' σ H' d (t1.trans t) s
      | ok r2 π2 =>
        rw [e1] at po
        intro F2 H2 t2 s2 u hu
        refine ⟨by rw [sizeLine_eq]; show 2 ≤ _; decide, fun q hq => ⟨q, [v, u], rfl, .of upd_same, rfl, v, [u], rfl, u, [], rfl, rfl, ?_⟩⟩
        have g : Gr F2 H2 F2 (L2.upd H2 q (.tup [v, u])) := gr_lst s2.le hq
        replace s2 := g.sr s2
        replace hu := hu.step g.tr
        replace t2 := t2.trans g.tr
        generalize L2.upd H2 q (.tup [v, u]) = H2 at s2 hu t2
        have hv2 := hv.step t2
        have po2 : PoS c w.W F π σ H ((setR i r1 π2).bind fun _ => setR j r2) (flK c D π σ H) := po
        obtain ⟨π3, e3, s3, t3, o3⟩ := setR_step s2 hv2.rq po2
        rw [e3] at po2
        have po3 : PoS c w.W F π σ H ((setR j r2 π3).bind fun fl π' => .ok fl π') (flK c D π σ H) := by
          have po2' : PoS c w.W F π σ H (setR j r2 π3) (flK c D π σ H) := po2
          cases e5 : setR j r2 π3 with
          | bad => rw [e5] at po2'; exact po2'
          | exc C qs π2 => rw [e5] at po2'; exact po2'
          | ok fl π4 => rw [e5] at po2'; exact po2'
        have T3 := t3 F π σ H (t1.trans t2) fun a o ev er => by
          subst er
          obtain ⟨a', e4, _, _, _, fr⟩ := hv2
          rw [ev] at e4
          cases e4
          exact fr
        have hu3 : RQ c F2 π3 (σ.set i (some v)) H2 r2 u := by
          cases r2 with
          | val p => exact hu
          | bor k => trivial
          | own o =>
            obtain ⟨a2, e4, h1, h2, h3, h4⟩ := hu
            refine ⟨a2, e4, h1, fun z => ?_, h3⟩
            rcases o3 a2 z with q | ⟨q, o1, q2⟩
            · exact h2 q
            · subst q2
              obtain ⟨a1, e5, k1, k2, k3, k4⟩ := hv
              rw [q] at e5
              cases e5
              obtain ⟨uu, hu1⟩ := k3.there
              rcases h4 with h4 | h4
              · rw [hu1] at h4; cases h4
              · exact k2 h4
        obtain ⟨π4, e4, s4, t4, _⟩ := setR_step s3 hu3 po3
        have po4 : PoS c w.W F π σ H (setR j r2 π3) (flK c D π σ H) := po2
        rw [e4] at po4
        refine po4 F2 _ H2 (t4 F π σ H T3 fun a o ev er => ?_) s4
        subst er
        obtain ⟨a', e5, _, _, _, fr⟩ := hu
        rw [ev] at e5
        cases e5
        exact Fr0.back t1 fr
end
end PV

set_option maxHeartbeats 2000000
namespace HT
open PySem PySem.Spec PyProof.Rows L2
section
variable {prog : Program} {w : World} {A : Around} {E : Value → Shared → Prop} {s : Shared}
theorem adjust_rev (n : Nat) : Builtin.Slice.sliceAdjust none none (-1) (n : Int) = ((n : Int) - 1, -1) := by
  unfold Builtin.Slice.sliceAdjust
  have h1 : ((-1 : Int) < 0) := by omega
  simp only [h1, if_true]
theorem places_rev (n : Nat) : Builtin.Slice.slicePlaces ((n : Int) - 1) (-1) (-1) = n := by
  unfold Builtin.Slice.slicePlaces
  rw [if_neg (by omega)]
  by_cases h : n = 0
  · subst h; rfl
  · rw [if_pos (by omega), show (-(-1) : Int) = 1 by omega, Int.ediv_one]
    omega
theorem sliceApplied_rev {sl : Addr} {vl vu vs : Value} {n : Nat} {Q : Int × Int × Nat → Shared → Prop} (hs : s.heap.IsSliceOf sl vl vu vs) (pl : IsPart vl none) (pu : IsPart vu none) (ps : IsPart vs (some (-1)))
    (h : Q ((n : Int) - 1, -1, n) s) : wpAny (model prog w) A (Builtin.Slice.sliceApplied (.ref sl) (pure (n : Int))) Q E s := by
  obtain ⟨os, hos, hcs, hds⟩ := id hs
  unfold Builtin.Slice.sliceApplied Builtin.Slice.sliceFields
  refine wpAny_bind (wpAny_bind (wpAny_field hos hds (x := vl) rfl (wpAny_bind (wpAny_field hos hds (x := vu) rfl (wpAny_bind (wpAny_field hos hds (x := vs) rfl (wpAny_pure ?_)))))))
  refine wpAny_bind (slicePart_ ps ?_)
  show wpAny _ _ (if ((-1 : Int) == 0) = true then _ else _) _ _ s
  rw [if_neg (by decide)]
  refine wpAny_bind (slicePart_ pl (wpAny_bind (slicePart_ pu (wpAny_bind (wpAny_pure ?_)))))
  show wpAny _ _ (match Builtin.Slice.sliceAdjust none none (-1) (n : Int) with | (lo, hi) => pure (lo, (-1 : Int), Builtin.Slice.slicePlaces lo hi (-1))) _ _ s
  rw [adjust_rev n]
  show wpAny _ _ (pure ((n : Int) - 1, (-1 : Int), Builtin.Slice.slicePlaces ((n : Int) - 1) (-1) (-1))) _ _ s
  rw [places_rev]
  exact wpAny_pure h
theorem fm_congr {α β : Type} {f g : α → Option β} : ∀ {l : List α}, (∀ a ∈ l, f a = g a) → l.filterMap f = l.filterMap g
  | [], _ => rfl
  | a :: l, h => by
    have ih := fm_congr (l := l) fun b hb => h b (List.mem_cons_of_mem _ hb)
    have h0 := h a List.mem_cons_self
    simp only [List.filterMap_cons, h0, ih]
theorem pick_rev (xs : Array Value) : ((List.range xs.size).filterMap fun (m : Nat) => xs[(((xs.size : Nat) : Int) - 1 + (m : Int) * (-1)).toNat]?).toArray = xs.toList.reverse.toArray := by
  congr 1
  have e : ∀ m ∈ List.range xs.size, xs[(((xs.size : Nat) : Int) - 1 + (m : Int) * (-1)).toNat]? = xs[xs.size - 1 - m]? := fun m hm => by
    have := List.mem_range.mp hm
    congr 1
    omega
  have e2 := PySem.W.krv_range xs.size
  have e3 : (List.range xs.size).filterMap (fun (m : Nat) => xs[(((xs.size : Nat) : Int) - 1 + (m : Int) * (-1)).toNat]?) = (List.range xs.size).filterMap (fun m => xs[xs.size - 1 - m]?) := fm_congr e
  rw [e3]
  have e4 : (List.range xs.size).filterMap (fun m => xs[xs.size - 1 - m]?) = ((List.range xs.size).map fun k => xs.size - 1 - k).filterMap (xs[·]?) := by rw [List.filterMap_map]; rfl
  rw [e4, e2, List.filterMap_reverse, PySem.W.krv_all]
theorem getItem_tuple_rev {t sl : Addr} {items : Array Value} {vl vu vs : Value} {Q : Value → Shared → Prop} (ht : IsTup s.heap t items) (hs : s.heap.IsSliceOf sl vl vu vs) (pl : IsPart vl none) (pu : IsPart vu none) (ps : IsPart vs (some (-1)))
    (h : Q (.ref s.heap.objs.size) { s with heap := s.heap.push { cls := .type "tuple", data := .seq items.toList.reverse.toArray } })
    (hsz : items.size ≤ sizeLine) : wpAny (model prog w) A (getItem (.ref t) (.ref sl)) Q E s := by
  have htake : sizeOk (.seq items.toList.reverse.toArray) := by
    show items.toList.reverse.toArray.size ≤ sizeLine
    rw [List.size_toArray, List.length_reverse, Array.length_toList]
    exact hsz
  obtain ⟨os, hos, hcs, hds⟩ := id hs
  have hTs : s.TypeIs (.ref sl) "slice" := ⟨os, hos, hcs⟩
  unfold getItem
  try with_reducible refine wpAny_holding ?_
  first | refine wpAny_bind (wpAny_pure ?_) | skip
  refine wpAny_bind (wpAny_sequenceKey ht.typeIs (by decide) ?_)
  refine wpAny_bind (wpAny_callSpecial?_slot (name := Str.ofString "__getitem__") ht.typeIs PyProof.Rows.slot_tuple_getitem
    (wpAny_call_entry PyProof.Rows.slot_tuple_getitem ht.typeIs entry_tuple_getitem ?_ (args_tuple_getitem _ _)))
  show wpAny _ _ (Builtin.Tuple.tupleItemsOf (.ref t) >>= _) _ _ s
  refine wpAny_bind (tupleItemsOf_ ht ?_)
  refine wpAny_bind (wpAny_typeOf hTs ?_)
  rw [if_pos (by decide)]
  refine wpAny_bind (sliceApplied_rev hs pl pu ps ?_)
  have hno : ¬ (((((items.size : Nat) : Int) - 1) == 0 && (-1 : Int) == 1 && items.size == items.size) = true) := by
    intro q
    rw [Bool.and_eq_true, Bool.and_eq_true] at q
    exact absurd q.1.2 (by decide)
  show wpAny _ _ (if ((((items.size : Nat) : Int) - 1) == 0 && (-1 : Int) == 1 && items.size == items.size) = true then _ else _) _ _ s
  rw [if_neg hno, pick_rev]
  first
    | exact wpAny_bind (m := Builtin.Tuple.tupleExact _) (wpAny_newObj_type (wpAny_pure ⟨_, rfl, wpAny_pure h⟩) htake)
    | exact wpAny_bind (m := Builtin.Tuple.tupleExact _) (wpAny_newObj_type (wpAny_bind (wpAny_pure (wpAny_pure ⟨_, rfl, wpAny_pure h⟩))) htake)
    | exact wpAny_bind (wpAny_bind (m := Builtin.Tuple.tupleExact _) (wpAny_newObj_type (wpAny_pure (wpAny_pure ⟨_, rfl, wpAny_pure h⟩)) htake))
    | exact wpAny_bind (wpAny_bind (m := Builtin.Tuple.tupleExact _) (wpAny_newObj_type (wpAny_pure ⟨_, rfl, wpAny_pure h⟩) htake))
end
end HT
namespace PV
open PySem PySem.Spec L2 PyProof.Rows
/-! ### xs[::-1] -/
def tRevLT (K : PySem.W.Frag) (te : TE) : TE := fun σ H Q => te σ H fun x H1 => ∃ a xs, x = .ref a ∧ ((SqL K H1 a xs ∧ ∀ p, H1 p = none → Q (.ref p) (L2.upd H1 p (.lst xs.reverse))) ∨ (SqT K H1 a xs ∧ ∀ p, H1 p = none → Q (.ref p) (L2.upd H1 p (.tup xs.reverse))))
theorem pe_revLT {X : Cx} {e : Expr} {te : TE} {k : Nat} {p1 p2 p3 pos : Pos} (he : PE X e te) : PE X (.Subscript e (.Slice none none (some (.UnaryOp .USub (.Constant (.int 1) k p1) p2)) p3) pos) (tRevLT X.K te) := by
  refine ⟨fun pins s σ H Q I h => ?_⟩
  refine Subscript_ (thn (he.run pins s σ H _ I h) fun v s1 ⟨x, H1, I1, r1, q1⟩ => ?_)
  obtain ⟨a, xs, ex, hx⟩ := q1
  subst ex
  cases r1
  have hst : PO X (some (.UnaryOp .USub (.Constant (.int 1) k p1) p2)) (tPart (tUn (rU fun i => .int (-i)) (tC (.int 1)))) := po_some (pe_un un_neg pe_int)
  refine wpAny_Slice (thn (po_none.run pins s1 σ H1 (fun o H2 => o = none ∧ H2 = H1) I1 ⟨rfl, rfl⟩) fun vl s2 ⟨l, H2, I2, pl, el, e2⟩ => ?_)
  subst el e2
  refine thn (po_none.run pins s2 σ H2 (fun o H3 => o = none ∧ H3 = H2) I2 ⟨rfl, rfl⟩) fun vu s3 ⟨u, H3, I3, pu, eu, e3⟩ => ?_
  subst eu e3
  refine thn (hst.run pins s3 σ H3 (fun o H4 => o = some (-1) ∧ H4 = H3) I3 ⟨1, rfl, -1, rfl, rfl, rfl⟩) fun vs s4 ⟨o, H4, I4, ps, eo, e4⟩ => ?_
  subst eo e4
  have I5 : Inv X pins σ H4 { s4 with heap := s4.heap.push { cls := .type "slice", data := .fields #[vl, vu, vs] } } := I4.kept (t' := s4.toks) fun b ob q => Heap.get?_push_of_some _ q
  rcases hx with ⟨hx, q⟩ | ⟨hx, q⟩
  · obtain ⟨its, r, ht, hz⟩ := I5.list hx
    have hlen := r.length
    show wpAny (model X.prog X.w) X.A (subscriptTail e (.Slice none none (some (.UnaryOp .USub (.Constant (.int 1) k p1) p2)) p3) (.ref a) (.ref s4.heap.objs.size)) (EP X pins σ Q) X.xe { s4 with heap := s4.heap.push { cls := .type "slice", data := .fields #[vl, vu, vs] } }
    refine tail_any (ops := [.ref a, .ref s4.heap.objs.size]) ht.isList.typeIs (PySem.slot_list_getitem.lookup) ?_ (by with_unfolding_all rfl)
    refine wpAny_getItem_list_slice ht.isList (Heap.IsSliceOf.new _ vl vu vs) pl pu ps (by decide) ?_ (by rw [List.size_toArray]; omega)
    rw [PySem.W.krv_pick]
    refine ⟨.ref _, _, I5.laid (t' := s4.toks) (o := .lst xs.reverse) (fun b ob q => Heap.get?_push_of_some _ q) (Nat.le_refl _) ?_, rfl, q _ (I5.hok.fresh (Nat.le_refl _))⟩
    exact ⟨by rw [List.length_reverse]; exact hz, _, 0, r.reverse, Heap.get?_push_size _ rfl⟩
  · obtain ⟨its, r, ht, hz⟩ := I5.tuple hx
    have hlen := r.length
    show wpAny (model X.prog X.w) X.A (subscriptTail e (.Slice none none (some (.UnaryOp .USub (.Constant (.int 1) k p1) p2)) p3) (.ref a) (.ref s4.heap.objs.size)) (EP X pins σ Q) X.xe { s4 with heap := s4.heap.push { cls := .type "slice", data := .fields #[vl, vu, vs] } }
    refine tail_any (ops := [.ref a, .ref s4.heap.objs.size]) ht.typeIs (PyProof.Rows.slot_tuple_getitem.lookup) ?_ (by with_unfolding_all rfl)
    refine HT.getItem_tuple_rev ht (Heap.IsSliceOf.new _ vl vu vs) pl pu ps ?_ (by rw [List.size_toArray]; omega)
    refine ⟨.ref _, _, I5.laid (t' := s4.toks) (o := .tup xs.reverse) (fun b ob q => Heap.get?_push_of_some _ q) (Nat.le_refl _) ?_, rfl, q _ (I5.hok.fresh (Nat.le_refl _))⟩
    exact ⟨by rw [List.length_reverse]; exact hz, its.reverse, r.reverse, ⟨_, Heap.get?_push_size _ rfl, rfl, 0, by simp⟩⟩
def revP : P → Option Rv
  | .lst ps => some (.own (.lst ps.reverse))
  | .tup ps => some (.val (.tup ps.reverse))
  | _ => none
theorem un_weak {c : Ctx} {w : Wi} {f : M Rs} {r : V → Hp → VK → Prop} {o : P → Option Rv} (hv : UnV c r o) : ∀ σ H Q, tE c w (unF o f) σ H Q → tE c w f σ H fun x H1 => r x H1 Q := fun σ H Q ⟨F, π, gg, s, po⟩ => by
    refine ⟨F, π, gg, s, (Po.split po).mono fun r1 π1 F1 H1 t1 s1 p1 x hx => ?_⟩
    unfold op1 at p1
    cases e1 : rdP π1 r1 with
    | none => rw [e1] at p1; exact p1.elim
    | some q1 =>
      rw [e1] at p1
      obtain ⟨rv, e3, k⟩ := outR_post s1 p1
      refine hv F1 H1 q1 x rv Q s1.le (hx.rb s1 e1) e3 fun v F3 H3 gr rn => ?_
      obtain ⟨k1, k2⟩ := k v F3 H3 gr rn
      exact k1 v (k2.base t1)
section
variable {X : Cx} {c : Ctx} {w : Wi} {e : Expr} {f : M Rs} {k : Nat} {p1 p2 p3 pos : Pos}
theorem p_rev (hK : X.K = c.K) (he : PE X e (tE c w f)) : PE X (.Subscript e (.Slice none none (some (.UnaryOp .USub (.Constant (.int 1) k p1) p2)) p3) pos) (tE c w (unF revP f)) :=
  pe_weak (pe_revLT he) fun σ H Q h => by
    have hv : UnV c (fun x H Q => ∃ a xs, x = .ref a ∧ ((SqL c.K H a xs ∧ ∀ p, H p = none → Q (.ref p) (L2.upd H p (.lst xs.reverse))) ∨ (SqT c.K H a xs ∧ ∀ p, H p = none → Q (.ref p) (L2.upd H p (.tup xs.reverse))))) revP := by
      intro F H p x res Q l h1 e k
      unfold revP at e
      split at e
      · cases e
        obtain ⟨a, vs, rfl, q, r⟩ := h1.lst l
        exact ⟨a, vs, rfl, .inl ⟨.of q, fun p hp => k _ _ _ (gr_lst l hp) (rn_lst l hp (rps_reverse r))⟩⟩
      · cases e
        obtain ⟨a, vs, rfl, q, r, z⟩ := h1.tup l
        exact ⟨a, vs, rfl, .inr ⟨q, fun p hp => k _ _ _ (gr_tup l hp) (rn_tup l hp (rps_reverse r))⟩⟩
      · cases e
    have := un_weak hv σ H Q h
    unfold tRevLT
    rw [hK]
    exact this
end
end PV

set_option maxHeartbeats 2000000
namespace PV
open PySem PySem.Spec L2 PyProof.Rows
/-! ### str(i), str(x) -/
def strP : List P → Option Rv
  | [.int i] => if i.natAbs.log2 < 1920 then some (.val (.str (toString i))) else none
  | [.str x] => some (.val (.str x))
  | _ => none
def rStr2 : List V → Hp → VK → Prop := fun xs H Q => (∃ i, xs = [.int i] ∧ i.natAbs.log2 < 1920 ∧ Q (.str (toString i)) H) ∨ (∃ a, xs = [.str a] ∧ Q (.str a) H)
theorem call_str2 {X : Cx} : CallR X (.type "str") rStr2 := CallR.or call_str_int SkE.call_str_str
theorem v_str2 {c : Ctx} : CalV c rStr2 strP := by
  intro F H ps xs res Q l h e k
  unfold strP at e
  split at e
  · split at e
    · rename_i i hi
      cases e
      obtain ⟨v, rfl, h1⟩ := rbs1 h
      cases h1.int
      exact .inl ⟨i, rfl, hi, give l k mk_str⟩
    · cases e
  · cases e
    obtain ⟨v, rfl, h1⟩ := rbs1 h
    cases h1.str
    exact .inr ⟨_, rfl, give l k mk_str⟩
  · cases e
/-! ### a text's slice -/
def slTP : P → Option Int → Option Int → Option Rv
  | .str z, lo, hi => if z.length ≤ 1000000 then some (.val (.str (cutS z lo hi))) else none
  | _, _, _ => none
def slTR (r : Rs) (lo hi : Option Int) : M Rs := fun π => match rdP π r with
  | some p => outR (slTP p lo hi) π
  | none => .bad
def slTF (f : M Rs) (g h : M (Option Int)) : M Rs := fun π => (f π).bind fun r π1 => (g π1).bind fun lo π2 => (h π2).bind fun hi => slTR r lo hi
section
variable {X : Cx} {c : Ctx} {w : Wi} {e tg : Expr} {lo hi : Option Expr} {pos p2 : Pos} {f : M Rs} {fp : M P} {g h : M (Option Int)}
theorem p_slT (he : PE X e (tE c w f)) (hl : PO X lo (tO c w g)) (hu : PO X hi (tO c w h)) : PE X (.Subscript e (.Slice lo hi none p2) pos) (tE c w (slTF f g h)) :=
  pe_weak (pe_slice sl_str he hl hu) fun σ H Q ⟨F, π, gg, s, po⟩ => by
    refine ⟨F, π, gg, s, (Po.split po).mono fun r π1 F1 H1 t1 s1 p1 x hx => ⟨F1, π1, w.mono _ _ t1.le gg, s1, (Po.split p1).mono fun lo π2 F2 H2 t2 s2 p2 => ⟨F2, π2, w.mono _ _ (t1.trans t2).le gg, s2, (Po.split p2).mono fun hi π3 F3 H3 t3 s3 p3 => ?_⟩⟩⟩
    have hz := sizeLine_eq
    unfold slTR at p3
    cases e1 : rdP π3 r with
    | none => rw [e1] at p3; exact p3.elim
    | some q1 =>
      rw [e1] at p3
      obtain ⟨rv, e3, k⟩ := outR_post s3 p3
      unfold slTP at e3
      split at e3
      · split at e3
        · rename_i z hzl
          cases e3
          have hv := ((hx.step (t2.trans t3)).rb s3 e1).str
          subst hv
          refine ⟨z, rfl, by omega, ?_⟩
          obtain ⟨k1, k2⟩ := k (.str (cutS z lo hi)) F3 H3 (Gr.refl s3.le) (mk_str (c := c) (H := F3))
          exact k1 _ (k2.base (t1.trans (t2.trans t3)))
        · cases e3
      · cases e3
/-! ### the signs of a text -/
theorem wk_str {F : Hp} {z : Str} : Wk c F (Its z) (z.cps.toList.map fun n => P.str ⟨#[n]⟩) where
  stop := fun G l => by show z.cps.size ≤ _; simp
  go := fun i G l hi => by show i < z.cps.size; simpa using hi
  yld := fun i p F1 G x G' l1 l2 e y => by
    obtain ⟨rfl, n, hn, rfl⟩ := y
    rw [List.getElem?_map] at e
    have : z.cps.toList[i]? = some n := by simpa using hn
    rw [this] at e
    cases e
    exact ⟨F1, Gr.refl l2, mk_str⟩
def itTR (p : P) : M (List P) := fun π => match p with
  | .str z => if z.length ≤ 1000000 then .ok (z.cps.toList.map fun n => .str ⟨#[n]⟩) π else .bad
  | _ => .bad
def itTF (f : M P) : M (List P) := fun π => (f π).bind itTR
theorem i_text (he : PE X e (tV c w fp)) : PI X tg e (tI c w (itTF fp)) := pi_weak (pi_str he) fun σ H R ⟨F, π, gg, s, po⟩ => by
  refine ⟨F, π, gg, s, (Po.split po).mono fun q π1 F1 H1 t1 s1 p1 v hr => ?_⟩
  have hz := sizeLine_eq
  unfold itTR at p1
  cases q with
  | str z =>
    simp only at p1
    split at p1
    · rename_i hl
      exact ⟨z, rp_str hr, p1 F1 H1 .refl s1 _ wk_str (by rw [List.length_map, Array.length_toList]; have : z.cps.size = z.length := rfl; omega)⟩
    · exact p1.elim
  | _ => exact p1.elim
end
/-! ### in: lists, flat tuples, texts -/
def flatP : P → Bool
  | .non => true
  | .bl _ => true
  | .int _ => true
  | .str _ => true
  | _ => false
def inXP (neg : Bool) : P → P → Option Rv
  | p, .lst ps => inLP neg p (.lst ps)
  | p, .tup ps => if flatP p = true ∧ ps.all flatP = true then ib (if neg = true then !ps.any (fun z => eqv z p) else ps.any fun z => eqv z p) else none
  | .str x, .str z => match x.cps.toList with
    | [n] => ib (if neg = true then !decide (n ∈ z.cps.toList) else decide (n ∈ z.cps.toList))
    | _ => none
  | _, _ => none
def rInX (K : PySem.W.Frag) : R2 := fun x y H Q => rInD K x y H Q ∨ (rIn K false x y H Q ∨ ∃ (c : Nat) (z : Str), x = .str ⟨#[c]⟩ ∧ y = .str z ∧ Q (.bl (decide (c ∈ z.cps.toList))) H)
def rNotInX (K : PySem.W.Frag) : R2 := fun x y H Q => rNotInD K x y H Q ∨ (rIn K true x y H Q ∨ ∃ (c : Nat) (z : Str), x = .str ⟨#[c]⟩ ∧ y = .str z ∧ Q (.bl (!decide (c ∈ z.cps.toList))) H)
theorem op_inX {X : Cx} (hu : X.A.units + 65 < cLine) : OpR X (compareOp .In) (rInX X.K) := OpR.or (op_inD hu) (OpR.or op_in_seq op_in_sign)
theorem op_notInX {X : Cx} (hu : X.A.units + 65 < cLine) : OpR X (compareOp .NotIn) (rNotInX X.K) := OpR.or (op_notInD hu) (OpR.or op_notIn_seq op_notIn_sign)
theorem flat_rp {c : Ctx} {H : Hp} {p : P} {v : V} (f : flatP p = true) (r : Rp c H p v) : flatV v = true ∧ ∀ q u, flatP q = true → Rp c H q u → L2.eqV u v = eqv q p := by
  cases p with
  | non =>
    rw [rp_non r]
    refine ⟨rfl, fun q u hq ru => ?_⟩
    cases q with
    | non => rw [rp_non ru]; rfl
    | bl b => rw [rp_bl ru]; rfl
    | int i => rw [rp_int ru]; rfl
    | str x => rw [rp_str ru]; rfl
    | _ => cases hq
  | bl b =>
    rw [rp_bl r]
    refine ⟨rfl, fun q u hq ru => ?_⟩
    cases q with
    | non => rw [rp_non ru]; rfl
    | bl b => rw [rp_bl ru]; rfl
    | int i => rw [rp_int ru]; rfl
    | str x => rw [rp_str ru]; rfl
    | _ => cases hq
  | int i =>
    rw [rp_int r]
    refine ⟨rfl, fun q u hq ru => ?_⟩
    cases q with
    | non => rw [rp_non ru]; rfl
    | bl b => rw [rp_bl ru]; rfl
    | int i => rw [rp_int ru]; rfl
    | str x => rw [rp_str ru]; rfl
    | _ => cases hq
  | str x =>
    rw [rp_str r]
    refine ⟨rfl, fun q u hq ru => ?_⟩
    cases q with
    | non => rw [rp_non ru]; rfl
    | bl b => rw [rp_bl ru]; rfl
    | int i => rw [rp_int ru]; rfl
    | str x => rw [rp_str ru]; rfl
    | _ => cases hq
  | _ => cases f
theorem flats_rp {c : Ctx} {H : Hp} {p : P} {v : V} (f : flatP p = true) (r : Rp c H p v) : ∀ {ps : List P} {vs : List V}, ps.all flatP = true → Rps c H ps vs → vs.all flatV = true ∧ L2.inV v vs = ps.any fun z => eqv z p
  | [], _, _, rs => by rw [rps_nil_inv rs]; exact ⟨rfl, rfl⟩
  | q :: ps, _, h, rs => by
    obtain ⟨u, t, rfl, h1, h2⟩ := rps_inv rs
    rw [List.all_cons, Bool.and_eq_true] at h
    obtain ⟨a, b⟩ := flats_rp f r h.2 h2
    refine ⟨by rw [List.all_cons, (flat_rp h.1 h1).1, a]; rfl, ?_⟩
    unfold L2.inV at b ⊢
    rw [List.any_cons, List.any_cons, b, (flat_rp f r).2 q u h.1 h1]
theorem v_inX {c : Ctx} : OpV c (rInX c.K) (inXP false) := by
  intro F H p1 p2 x y res Q l h1 h2 e k
  unfold inXP at e
  split at e
  · exact .inl (v_inL F H _ _ x y res Q l h1 h2 e k)
  · split at e
    · rename_i ps hf
      cases e
      obtain ⟨a, vs, rfl, q, r, z⟩ := h2.tup l
      have r1 := h1.rpH l
      obtain ⟨a1, a2⟩ := flats_rp hf.1 r1 hf.2 (Rps.mono l _ _ r)
      exact .inr (.inl ⟨a, vs, rfl, .inr q, (flat_rp hf.1 r1).1, a1, by simp only [Bool.false_eq_true, if_false]; rw [a2]; exact give l k mk_bl⟩)
    · cases e
  · split at e
    · rename_i x z _l n hx
      cases e
      have e1 : x = ⟨#[n]⟩ := by
        cases x with
        | mk cps =>
          congr 1
          exact Array.toList_inj.mp hx
      have v1 := h1.str
      have v2 := h2.str
      subst v1 v2 e1
      exact .inr (.inr ⟨n, z, rfl, rfl, by simpa using give l k mk_bl⟩)
    · cases e
  · cases e
theorem v_ninX {c : Ctx} : OpV c (rNotInX c.K) (inXP true) := by
  intro F H p1 p2 x y res Q l h1 h2 e k
  unfold inXP at e
  split at e
  · exact .inl (v_ninL F H _ _ x y res Q l h1 h2 e k)
  · split at e
    · rename_i ps hf
      cases e
      obtain ⟨a, vs, rfl, q, r, z⟩ := h2.tup l
      have r1 := h1.rpH l
      obtain ⟨a1, a2⟩ := flats_rp hf.1 r1 hf.2 (Rps.mono l _ _ r)
      exact .inr (.inl ⟨a, vs, rfl, .inr q, (flat_rp hf.1 r1).1, a1, by simp only [if_true]; rw [a2]; exact give l k mk_bl⟩)
    · cases e
  · split at e
    · rename_i x z _l n hx
      cases e
      have e1 : x = ⟨#[n]⟩ := by
        cases x with
        | mk cps =>
          congr 1
          exact Array.toList_inj.mp hx
      have v1 := h1.str
      have v2 := h2.str
      subst v1 v2 e1
      exact .inr (.inr ⟨n, z, rfl, rfl, by simpa using give l k mk_bl⟩)
    · cases e
  · cases e
end PV

set_option maxHeartbeats 2000000
namespace PV
open PySem PySem.Spec L2 PyProof.Rows
/-! ### x, y, z = e, e', e'' where a name is read within a comprehension -/
section
variable {X : Cx} {c : Ctx} {w : Ws} {a b d : Expr} {x y z : Str} {px py pz pt pos : Pos} {kt k2 pt2} {i j l : Nat} {fa : M (List Rs)}
theorem s_par3C (hc : X.calm = true) (hN : X.N.Nodup) (hi : X.N[i]? = some x) (hj : X.N[j]? = some y) (hl : X.N[l]? = some z) (hij : i ≠ j) (hil : i ≠ l) (hjl : j ≠ l)
    (hx : Loc X.env.scope x) (hy : Loc X.env.scope y) (hz : Loc X.env.scope z) (ha : PA X [a, b, d] (tR c w fa))
    (hw : swappedStores [.Tuple [.Name x px, .Name y py, .Name z pz] kt pt] (.Tuple [a, b, d] k2 pt2) X.env = pure none := by rfl)
    (hfx : X.fn x = true ∨ X.env.scope.names.lookup x = some .local := by first | exact .inl rfl | exact .inr rfl) (hfy : X.fn y = true ∨ X.env.scope.names.lookup y = some .local := by first | exact .inl rfl | exact .inr rfl)
    (hfz : X.fn z = true ∨ X.env.scope.names.lookup z = some .local := by first | exact .inl rfl | exact .inr rfl)
    (hs : swapsWithSole [.Tuple [.Name x px, .Name y py, .Name z pz] kt pt] (.Tuple [a, b, d] k2 pt2) pos.line X.env = pure false := by rfl) :
    PS X (.Assign [.Tuple [.Name x px, .Name y py, .Name z pz] kt pt] (.Tuple [a, b, d] k2 pt2) pos) (tS c w (par3F i j l fa)) :=
  ps_weak (ps_asg (pe_tup ha) (pg_tup hc (pgs_cons (pg_name hN hi hx hfx) (pgs_cons (pg_name hN hj hy hfy) (pgs_cons (pg_name hN hl hz hfz) pgs_nil)))) hs hw) fun D σ H ⟨F, π, gg, s, po⟩ => by
    refine ⟨F, π, gg, s, ?_⟩
    unfold par3F at po
    cases e0 : fa π with
    | bad => rw [e0] at po; exact po
    | exc C ps π1 => rw [e0] at po; exact fun F' H' d t s => po F' σ H' d t s
    | ok rs π1 =>
    rw [e0] at po
    intro F1 H1 t1 s1 vs hv
    have p1 : PoS c w.W F π σ H (par3R i j l rs π1) (flK c D π σ H) := po
    unfold par3R at p1
    split at p1
    · rename_i r1 r2 r3
      obtain ⟨v1, vs1, rfl, h1, hv1⟩ := hv
      obtain ⟨v2, vs2, rfl, h2, hv2⟩ := hv1
      obtain ⟨v3, vs3, rfl, h3, hv3⟩ := hv2
      have e3 : vs3 = [] := hv3
      subst e3
      refine ⟨by rw [sizeLine_eq]; show 3 ≤ _; decide, fun q hq => ⟨q, [v1, v2, v3], rfl, .of upd_same, rfl, v1, [v2, v3], rfl, v2, [v3], rfl, v3, [], rfl, rfl, ?_⟩⟩
      have g : Gr F1 H1 F1 (L2.upd H1 q (.tup [v1, v2, v3])) := gr_lst s1.le hq
      replace s1 := g.sr s1
      replace h1 := h1.step g.tr
      replace h2 := h2.step g.tr
      replace h3 := h3.step g.tr
      replace t1 := t1.trans g.tr
      generalize L2.upd H1 q (.tup [v1, v2, v3]) = H2 at s1 h1 h2 h3 t1
      by_cases hno : (r1.isOwn && r2.isOwn || r1.isOwn && r3.isOwn || r2.isOwn && r3.isOwn) = false
      case neg => rw [if_neg hno] at p1; exact p1.elim
      rw [if_pos hno] at p1
      have n12 : (r1.isOwn && r2.isOwn) = false := by cases q1 : r1.isOwn <;> cases q2 : r2.isOwn <;> simp_all
      have n13 : (r1.isOwn && r3.isOwn) = false := by cases q1 : r1.isOwn <;> cases q2 : r3.isOwn <;> simp_all
      have n23 : (r2.isOwn && r3.isOwn) = false := by cases q1 : r2.isOwn <;> cases q2 : r3.isOwn <;> simp_all
      have fr : ∀ {r : Rs} {v : V}, RR c π H F1 π1 σ H2 r v → ∀ a o, v = .ref a → r = .own o → Fr0 π σ H a := fun {r v} h a o ev er => by
        subst er
        obtain ⟨a', e4, _, _, _, fr⟩ := h
        rw [ev] at e4; cases e4
        exact fr
      unfold set3R at p1
      obtain ⟨π2, e1, s2, t2, o2⟩ := setR_step s1 h1.rq p1
      rw [e1] at p1
      have T2 := t2 F π σ H t1 (fr h1)
      have p2 : PoS c w.W F π σ H ((setR j r2 π2).bind fun _ π2 => setR l r3 π2) (flK c D π σ H) := p1
      obtain ⟨π3, e2, s3, t3, o3⟩ := setR_step s2 (rq_next h2.rq o2 n12) p2
      rw [e2] at p2
      have T3 := t3 F π σ H T2 (fr h2)
      have p3 : PoS c w.W F π σ H (setR l r3 π3) (flK c D π σ H) := p2
      obtain ⟨π4, e4, s4, t4, o4⟩ := setR_step s3 (rq_next (rq_next h3.rq o2 n13) o3 n23) (bind_ok p3)
      rw [e4] at p3
      exact p3 F1 _ H2 (t4 F π σ H T3 (fr h3)) s4
    · exact p1.elim
end
end PV

set_option maxHeartbeats 4000000
namespace PV
open PySem PySem.Spec L2 PyProof.Rows
abbrev clsOf : List Addr → Nat → Addr := fun l n => l.getD n 0
def lay_k15 : Nat → List Str
  | 0 => []
  | 1 => ["value"]
  | 2 => ["index"]
  | 3 => ["limit"]
  | 4 => ["value"]
  | 5 => ["value"]
  | 6 => ["begin", "dark", "legs"]
  | _ => []
abbrev cx (K : PySem.W.Frag) (cls fna : Nat → Addr) : Ctx := ⟨K, cls, lay_k15, fna⟩
def sub_k15 (a b : Nat) : Bool := (a == 0 && b == 0) || (a == 1 && b == 1) || (a == 1 && b == 0) || (a == 2 && b == 2) || (a == 2 && b == 0) || (a == 3 && b == 3) || (a == 3 && b == 0) || (a == 4 && b == 4) || (a == 4 && b == 0) || (a == 5 && b == 5) || (a == 5 && b == 0) || (a == 6 && b == 6)
noncomputable def B_law_taken : M Fl := seqF (ifF (tstF (binF gtP (binF ixP (varF 0) (cF (.int 3))) (cF (.int 0)))) (seqF (setF 3 (binF modP (calF intP (consF (binF ixP (varF 0) (cF (.int 3))) (nilF))) (varF 1)))
  (seqF (stF 0 (takeF (binF fdivP (binF ixP (varF 0) (cF (.int 3))) (varF 1))) (cF (.int 3)))
  (retF (varF 3)))) (skipF))
  (seqF (stF 0 (takeF (binF addP (binF ixP (varF 0) (cF (.int 1))) (cF (.int 1)))) (cF (.int 1)))
  (seqF (ifF (tstF (binF gtP (binF ixP (varF 0) (cF (.int 1))) (calF lenP (consF (binF ixP (varF 0) (cF (.int 0))) (nilF))))) (seqF (stF 0 (takeF (binF modP (calF intP (consF (binF addP (binF mulP (binF ixP (varF 0) (cF (.int 2))) (cF (.int 48271))) (cF (.int 11))) (nilF))) (cF (.int 2147483647)))) (cF (.int 2)))
  (retF (binF modP (calF intP (consF (binF fdivP (binF ixP (varF 0) (cF (.int 2))) (cF (.int 7))) (nilF))) (varF 1)))) (skipF))
  (seqF (setF 2 (binF ixP (binF ixP (varF 0) (cF (.int 0))) (binF subP (binF ixP (varF 0) (cF (.int 1))) (cF (.int 1)))))
  (seqF (stF 0 (takeF (binF modP (calF intP (consF (binF addP (binF addP (binF mulP (binF ixP (varF 0) (cF (.int 2))) (cF (.int 48271))) (varF 2)) (cF (.int 11))) (nilF))) (cF (.int 2147483647)))) (cF (.int 2)))
  (seqF (ifF (tstF (binF geP (varF 2) (binF powP (cF (.int 10)) (cF (.int 18))))) (stF 0 (takeF (binF fdivP (varF 2) (varF 1))) (cF (.int 3))) (skipF))
  (retF (binF modP (calF intP (consF (varF 2) (nilF))) (varF 1))))))))
noncomputable def F_law_taken : FN := fnF 2 B_law_taken
noncomputable def B_law_pick : M Fl := retF (binF ixP (varF 1) (callF (F_law_taken) (consF (varF 0) (consF (calF lenP (consF (varF 1) (nilF))) (nilF)))))
noncomputable def F_law_pick : FN := fnF 0 B_law_pick
noncomputable def fr__law_name_1 : M Fl := forF (rng1F (consF (binF subP (varF 2) (cF (.int 1))) (nilF))) (nameT 4) (setF 3 (binF addP (varF 3) (binF ixP (varF 1) (callF (F_law_taken) (consF (varF 0) (consF (cF (.int 36)) (nilF)))))))
noncomputable def B_law_name : M Fl := seqF (setF 1 (cF (.str "abcdefghijklmnopqrstuvwxyz0123456789")))
  (seqF (setF 2 (callF (F_law_pick) (consF (varF 0) (consF (valF (takeF (lstF (consF (cF (.int 1)) (consF (cF (.int 1)) (consF (cF (.int 2)) (consF (cF (.int 3)) (consF (cF (.int 5)) (consF (cF (.int 12)) (nilF)))))))))) (nilF)))))
  (seqF (setF 3 (binF ixP (varF 1) (callF (F_law_taken) (consF (varF 0) (consF (cF (.int 26)) (nilF))))))
  (seqF (fr__law_name_1)
  (retF (varF 3)))))
noncomputable def F_law_name : FN := fnF 4 B_law_name
noncomputable def lc__law_names_1 : M Rs := lcF (rng1F (consF (cF (.int 100)) (nilF))) (nameT 6) (yesF) (takeF (binF addP (slTF (varF 4) (noP) (inP (cF (.int 9)))) (calF strP (consF (varF 6) (nilF))))) [6]
noncomputable def lc__law_names_2 : M Rs := lcF (itF (takeF (varF 5))) (nameT 7) (tstF (binF (inXP true) (varF 7) (varF 2))) (takeF (varF 7)) [7]
noncomputable def fr__law_names_1 : M Fl := forF (rng1F (consF (varF 1) (nilF))) (nameT 3) (seqF (setF 4 (callF (F_law_name) (consF (varF 0) (nilF))))
  (seqF (setF 5 (binF addP (lstF (consF (valF (takeF (varF 4))) (nilF))) (lc__law_names_1)))
  (dropF (mutF appP 2 (consF (binF ixP (lc__law_names_2) (cF (.int 0))) (nilF))))))
noncomputable def B_law_names : M Fl := seqF (setF 2 (lstF (nilF)))
  (seqF (fr__law_names_1)
  (retF (varF 2)))
noncomputable def F_law_names : FN := fnF 6 B_law_names
noncomputable def Bis_whole : M Fl := retF (andVF (calF isiP' (consF (varF 0) (consF (cF (.ty "int")) (nilF)))) (notVF (calF isiP' (consF (varF 0) (consF (cF (.ty "bool")) (nilF))))))
noncomputable def Fis_whole : FN := fnF 0 Bis_whole
noncomputable def Bis_number : M Fl := retF (andVF (callF (Fis_whole) (consF (valF (takeF (varF 0))) (nilF))) (chF leP leP (varF 1) (varF 0) (varF 2)))
noncomputable def Fis_number : FN := fnF 0 Bis_number
noncomputable def Bwant_number : M Fl := seqF (ifF (notF (tstF (callF (Fis_number) (consF (valF (takeF (varF 0))) (consF (valF (takeF (varF 1))) (consF (valF (takeF (varF 2))) (nilF))))))) (raiseF 1 1 (consF (valF (takeF (varF 0))) (nilF))) (skipF))
  (retF (varF 0))
noncomputable def Fwant_number : FN := fnF 0 Bwant_number
noncomputable def Bfrozen (Fd : FN) : M Fl := seqF (ifF (tstF (calF isiP' (consF (varF 0) (consF (tupF (consF (cF (.ty "list")) (consF (cF (.ty "tuple")) (nilF)))) (nilF))))) (retF (calF tupleP (consF (lcF (itF (takeF (varF 0))) (nameT 1) (yesF) (takeF (callF Fd (consF (valF (takeF (varF 1))) (nilF)))) [1]) (nilF)))) (skipF))
  (retF (varF 0))
noncomputable def Ffrozen : Nat → FN
  | 0 => fun _ => .bad
  | d + 1 => fnF 1 (Bfrozen (Ffrozen d))
noncomputable def Bis_row : M Fl := retF (calF isiP' (consF (varF 0) (consF (tupF (consF (cF (.ty "list")) (consF (cF (.ty "tuple")) (nilF)))) (nilF))))
noncomputable def Fis_row : FN := fnF 0 Bis_row
noncomputable def lc_is_name_1 : M Rs := lcF (itTF (takeF (varF 0))) (nameT 1) (yesF) (takeF (orVF (binF (inXP false) (varF 1) (cF (.str "abcdefghijklmnopqrstuvwxyz"))) (binF (inXP false) (varF 1) (cF (.str "0123456789"))))) [1]
noncomputable def Bis_name : M Fl := seqF (ifF (orF (notF (tstF (calF isiP' (consF (varF 0) (consF (cF (.ty "str")) (nilF)))))) (orF (notF (tstF (chF leP leP (cF (.int 1)) (calF lenP (consF (varF 0) (nilF))) (cF (.int 12))))) (tstF (binF (inXP true) (binF ixP (varF 0) (cF (.int 0))) (cF (.str "abcdefghijklmnopqrstuvwxyz")))))) (retF (cF (.bl false))) (skipF))
  (retF (calF allP (consF (lc_is_name_1) (nilF))))
noncomputable def Fis_name : FN := fnF 1 Bis_name
noncomputable def fr_is_leg_1 : M Fl := forF (itF (takeF (tupF (consF (cF (.int 1)) (consF (cF (.int 3)) (nilF)))))) (nameT 1) (ifF (orF (notF (tstF (callF (Fis_number) (consF (binF ixP (varF 0) (varF 1)) (consF (cF (.int 1)) (consF (cF (.int 300)) (nilF))))))) (notF (tstF (callF (Fis_number) (consF (binF ixP (varF 0) (binF addP (varF 1) (cF (.int 1)))) (consF (binF ixP (varF 0) (varF 1)) (consF (cF (.int 300)) (nilF)))))))) (retF (cF (.bl false))) (skipF))
noncomputable def Bis_leg : M Fl := seqF (ifF (orF (notF (tstF (callF (Fis_row) (consF (valF (takeF (varF 0))) (nilF))))) (orF (tstF (binF neP (calF lenP (consF (varF 0) (nilF))) (cF (.int 5)))) (notF (tstF (callF (Fis_name) (consF (binF ixP (varF 0) (cF (.int 0))) (nilF))))))) (retF (cF (.bl false))) (skipF))
  (seqF (fr_is_leg_1)
  (retF (cF (.bl true))))
noncomputable def Fis_leg : FN := fnF 1 Bis_leg
noncomputable def fr_want_row_1 : M Fl := forF (enumAF (consV (takeF (varF 0)) (nilV))) (tupT (consT (nameT 3) (consT (nameT 4) (nilT)))) (ifF (notF (tstF (callVF (fun k => if k = 0 then some Fis_leg else none) 1 (consF (valF (takeF (varF 4))) (nilF))))) (raiseF 2 1 (consF (valF (takeF (varF 3))) (nilF))) (skipF))
noncomputable def Bwant_row : M Fl := seqF (ifF (notF (tstF (callF (Fis_row) (consF (valF (takeF (varF 0))) (nilF))))) (raiseF 2 1 (consF (cF .non) (nilF))) (skipF))
  (seqF (fr_want_row_1)
  (seqF (ifF (tstF (binF gtP (calF lenP (consF (varF 0) (nilF))) (varF 2))) (raiseF 3 1 (consF (valF (takeF (varF 2))) (nilF))) (skipF))
  (retF (callF (Ffrozen 5) (consF (valF (takeF (varF 0))) (nilF))))))
noncomputable def Fwant_row : FN := fnF 2 Bwant_row
noncomputable def lc_Walk_init_1 : M Rs := lcF (itF (takeF (unF (fldP lay_k15 6 "legs") (varF 0)))) (nameT 7) (yesF) (takeF (binF ixP (varF 7) (cF (.int 0)))) [7]
noncomputable def fr_Walk_init_1 : M Fl := forF (enumAF (consV (takeF (varF 4)) (nilV))) (tupT (consT (nameT 5) (consT (nameT 6) (nilT)))) (ifF (tstF (binF (inXP false) (varF 6) (slF (varF 4) (noP) (inP (varF 5))))) (raiseF 5 1 (consF (valF (takeF (varF 6))) (nilF))) (skipF))
noncomputable def BWalk_init : M Fl := seqF (fstF lay_k15 0 6 "begin" (takeF (callF (Fwant_number) (consF (valF (takeF (varF 1))) (consF (cF (.int 0)) (consF (cF (.int 1440)) (nilF)))))))
  (seqF (fstF lay_k15 0 6 "dark" (takeF (callF (Fwant_number) (consF (valF (takeF (varF 2))) (consF (valF (takeF (varF 1))) (consF (cF (.int 1440)) (nilF)))))))
  (seqF (fstF lay_k15 0 6 "legs" (takeF (callF (Fwant_row) (consF (valF (takeF (varF 3))) (consF (valF (takeF (cF (.fn 0)))) (consF (valF (takeF (cF (.int 10)))) (nilF)))))))
  (seqF (setF 4 (lc_Walk_init_1))
  (fr_Walk_init_1))))
noncomputable def FWalk_init : FN := fnF 4 BWalk_init
noncomputable def BWalk_eq : M Fl := seqF (ifF (notF (tstF (calF (isiCP 6) (consF (varF 1) (consF (cF (.cls 6)) (nilF)))))) (retF (cF (.bl false))) (skipF))
  (retF (binF eqP (tupF (consF (unF (fldP lay_k15 6 "begin") (varF 0)) (consF (unF (fldP lay_k15 6 "dark") (varF 0)) (consF (unF (fldP lay_k15 6 "legs") (varF 0)) (nilF))))) (tupF (consF (unF (fldP lay_k15 6 "begin") (varF 1)) (consF (unF (fldP lay_k15 6 "dark") (varF 1)) (consF (unF (fldP lay_k15 6 "legs") (varF 1)) (nilF)))))))
noncomputable def FWalk_eq : FN := fnF 0 BWalk_eq
noncomputable def lc_Walk_place_1 : M Rs := lcF (itF (takeF (unF (fldP lay_k15 6 "legs") (varF 0)))) (nameT 3) (yesF) (takeF (binF ixP (varF 3) (cF (.int 0)))) [3]
noncomputable def BWalk_place : M Fl := seqF (setF 2 (lc_Walk_place_1))
  (seqF (ifF (tstF (binF (inXP true) (varF 1) (varF 2))) (raiseF 4 1 (consF (valF (takeF (varF 1))) (nilF))) (skipF))
  (retF (pmF indexP (varF 2) (consF (varF 1) (nilF)))))
noncomputable def FWalk_place : FN := fnF 2 BWalk_place
noncomputable def lc_Walk_back_1 : M Rs := lcF (itF (takeF (varF 2))) (nameT 3) (yesF) (takeF (binF ixP (varF 3) (cF (.int 3)))) [3]
noncomputable def lc_Walk_back_2 : M Rs := lcF (itF (takeF (varF 2))) (nameT 3) (yesF) (takeF (binF ixP (varF 3) (cF (.int 4)))) [3]
noncomputable def BWalk_back : M Fl := seqF (setF 2 (slF (unF (fldP lay_k15 6 "legs") (varF 0)) (noP) (inP (binF addP (methF 6 FWalk_place (varF 0) (consF (valF (takeF (varF 1))) (nilF))) (cF (.int 1))))))
  (retF (tupF (consF (calF sumP (consF (lc_Walk_back_1) (nilF))) (consF (calF sumP (consF (lc_Walk_back_2) (nilF))) (nilF)))))
noncomputable def FWalk_back : FN := fnF 2 BWalk_back
noncomputable def BWalk_turn_at : M Fl := retF (binF subP (unF (fldP lay_k15 6 "dark") (varF 0)) (binF ixP (methF 6 FWalk_back (varF 0) (consF (valF (takeF (varF 1))) (nilF))) (cF (.int 1))))
noncomputable def FWalk_turn_at : FN := fnF 0 BWalk_turn_at
noncomputable def lc_Walk_arrives_1 : M Rs := lcF (itF (takeF (varF 2))) (nameT 3) (yesF) (takeF (binF ixP (varF 3) (cF (.int 1)))) [3]
noncomputable def lc_Walk_arrives_2 : M Rs := lcF (itF (takeF (varF 2))) (nameT 3) (yesF) (takeF (binF ixP (varF 3) (cF (.int 2)))) [3]
noncomputable def BWalk_arrives : M Fl := seqF (setF 2 (slF (unF (fldP lay_k15 6 "legs") (varF 0)) (noP) (inP (binF addP (methF 6 FWalk_place (varF 0) (consF (valF (takeF (varF 1))) (nilF))) (cF (.int 1))))))
  (retF (tupF (consF (valF (takeF (binF addP (unF (fldP lay_k15 6 "begin") (varF 0)) (calF sumP (consF (lc_Walk_arrives_1) (nilF)))))) (consF (valF (takeF (binF addP (unF (fldP lay_k15 6 "begin") (varF 0)) (calF sumP (consF (lc_Walk_arrives_2) (nilF)))))) (nilF)))))
noncomputable def FWalk_arrives : FN := fnF 2 BWalk_arrives
noncomputable def BWalk_surely_back : M Fl := retF (binF leP (binF ixP (methF 6 FWalk_arrives (varF 0) (consF (valF (takeF (varF 1))) (nilF))) (cF (.int 1))) (methF 6 FWalk_turn_at (varF 0) (consF (valF (takeF (varF 1))) (nilF))))
noncomputable def FWalk_surely_back : FN := fnF 0 BWalk_surely_back
noncomputable def lc_Walk_farthest_sure_1 : M Rs := lcF (itF (takeF (unF (fldP lay_k15 6 "legs") (varF 0)))) (nameT 2) (tstF (methF 6 FWalk_surely_back (varF 0) (consF (binF ixP (varF 2) (cF (.int 0))) (nilF)))) (takeF (binF ixP (varF 2) (cF (.int 0)))) [2]
noncomputable def BWalk_farthest_sure : M Fl := seqF (setF 1 (lc_Walk_farthest_sure_1))
  (retF (ifEF (tstF (binF gtP (calF lenP (consF (varF 1) (nilF))) (cF (.int 0)))) (binF ixP (varF 1) (unF negP (cF (.int 1)))) (cF .non)))
noncomputable def FWalk_farthest_sure : FN := fnF 2 BWalk_farthest_sure
noncomputable def lc__law_some_1 : M Rs := lcF (itF (takeF (varF 1))) (nameT 2) (tstF (binF eqP (callF (F_law_taken) (consF (varF 0) (consF (cF (.int 2)) (nilF)))) (cF (.int 1)))) (takeF (varF 2)) [2]
noncomputable def B_law_some : M Fl := retF (lc__law_some_1)
noncomputable def F_law_some : FN := fnF 1 B_law_some
noncomputable def B_law_truth : M Fl := retF (andVF (calF isiP' (consF (varF 0) (consF (cF (.ty "bool")) (nilF)))) (binF eqP (varF 0) (varF 1)))
noncomputable def F_law_truth : FN := fnF 0 B_law_truth
noncomputable def lc_Walk_can_be_1 : M Rs := lcF (itF (takeF (varF 7))) (nameT 8) (yesF) (takeF (binF ixP (varF 8) (cF (.int 1)))) [8]
noncomputable def lc_Walk_can_be_2 : M Rs := lcF (itF (takeF (varF 7))) (nameT 8) (yesF) (takeF (binF ixP (varF 8) (cF (.int 2)))) [8]
noncomputable def fr_Walk_can_be_1 : M Fl := forF (itF (takeF (varF 1))) (tupT (consT (nameT 4) (consT (nameT 5) (nilT)))) (seqF (setF 6 (methF 6 FWalk_place (varF 0) (consF (valF (takeF (varF 4))) (nilF))))
  (seqF (ifF (tstF (binF ltP (varF 6) (varF 3))) (retF (cF (.bl false))) (skipF))
  (seqF (setF 7 (slF (unF (fldP lay_k15 6 "legs") (varF 0)) (inP (varF 3)) (inP (binF addP (varF 6) (cF (.int 1))))))
  (seqF (setF 2 (tupF (consF (valF (takeF (binF addP (binF ixP (varF 2) (cF (.int 0))) (calF sumP (consF (lc_Walk_can_be_1) (nilF)))))) (consF (valF (takeF (binF addP (binF ixP (varF 2) (cF (.int 1))) (calF sumP (consF (lc_Walk_can_be_2) (nilF)))))) (nilF)))))
  (seqF (ifF (notF (tstF (chF leP leP (binF ixP (varF 2) (cF (.int 0))) (varF 5) (binF ixP (varF 2) (cF (.int 1)))))) (retF (cF (.bl false))) (skipF))
  (parF 2 3 (tupF (consF (valF (takeF (varF 5))) (consF (valF (takeF (varF 5))) (nilF)))) (binF addP (varF 6) (cF (.int 1)))))))))
noncomputable def BWalk_can_be : M Fl := seqF (parF 2 3 (tupF (consF (unF (fldP lay_k15 6 "begin") (varF 0)) (consF (unF (fldP lay_k15 6 "begin") (varF 0)) (nilF)))) (cF (.int 0)))
  (seqF (fr_Walk_can_be_1)
  (retF (cF (.bl true))))
noncomputable def FWalk_can_be : FN := fnF 7 BWalk_can_be
noncomputable def fr_Walk_must_turn_1 : M Fl := forF (itF (takeF (varF 1))) (tupT (consT (nameT 2) (consT (nameT 3) (nilT)))) (ifF (tstF (binF geP (varF 3) (methF 6 FWalk_turn_at (varF 0) (consF (valF (takeF (varF 2))) (nilF))))) (retF (varF 2)) (skipF))
noncomputable def BWalk_must_turn : M Fl := seqF (fr_Walk_must_turn_1)
  (retF (cF .non))
noncomputable def FWalk_must_turn : FN := fnF 2 BWalk_must_turn
noncomputable def lc_Walk_slower_1 : M Rs := lcF (itF (takeF (slF (varF 3) (inP (cF (.int 1))) (noP)))) (nameT 4) (yesF) (takeF (binF addP (varF 4) (unF negP (binF fdivP (binF mulP (unF negP (varF 4)) (varF 1)) (cF (.int 10)))))) [4]
noncomputable def fr_Walk_slower_1 : M Fl := forF (itF (takeF (unF (fldP lay_k15 6 "legs") (varF 0)))) (nameT 3) (dropF (mutF appP 2 (consF (valF (takeF (binF addP (slF (varF 3) (noP) (inP (cF (.int 1)))) (calF tupleP (consF (lc_Walk_slower_1) (nilF)))))) (nilF))))
noncomputable def BWalk_slower : M Fl := seqF (setF 2 (lstF (nilF)))
  (seqF (fr_Walk_slower_1)
  (retF (mkF 6 FWalk_init (consF (unF (fldP lay_k15 6 "begin") (varF 0)) (consF (unF (fldP lay_k15 6 "dark") (varF 0)) (consF (valF (takeF (varF 2))) (nilF)))))))
noncomputable def FWalk_slower : FN := fnF 3 BWalk_slower
noncomputable def BWalk_later : M Fl := retF (mkF 6 FWalk_init (consF (valF (takeF (binF addP (unF (fldP lay_k15 6 "begin") (varF 0)) (varF 1)))) (consF (unF (fldP lay_k15 6 "dark") (varF 0)) (consF (unF (fldP lay_k15 6 "legs") (varF 0)) (nilF)))))
noncomputable def FWalk_later : FN := fnF 0 BWalk_later
noncomputable def fr__law_seen_1 : M Fl := forF (itF (takeF (varF 12))) (nameT 4) (seqF (setF 13 (binF addP (binF addP (varF 13) (binF ixP (varF 4) (cF (.int 1)))) (callF (F_law_taken) (consF (varF 0) (consF (valF (takeF (binF addP (binF subP (binF ixP (varF 4) (cF (.int 2))) (binF ixP (varF 4) (cF (.int 1)))) (cF (.int 1))))) (nilF))))))
  (dropF (mutF appP 14 (consF (tupF (consF (binF ixP (varF 4) (cF (.int 0))) (consF (valF (takeF (varF 13))) (nilF)))) (nilF)))))
noncomputable def lc__law_seen_1 : M Rs := lcF (itF (takeF (varF 5))) (tupT (consT (nameT 19) (consT (nameT 20) (nilT)))) (yesF) (takeF (tupF (consF (valF (takeF (varF 19))) (consF (valF (takeF (binF addP (varF 20) (callF (F_law_pick) (consF (varF 0) (consF (valF (takeF (lstF (consF (cF (.int 0)) (consF (cF (.int 0)) (consF (valF (takeF (binF subP (callF (F_law_taken) (consF (varF 0) (consF (cF (.int 30)) (nilF)))) (cF (.int 15))))) (nilF))))))) (nilF))))))) (nilF))))) [19, 20]
noncomputable def lc__law_seen_2 : M Rs := lcF (itF (takeF (slF (varF 12) (inP (binF addP (varF 16) (cF (.int 1)))) (inP (binF addP (varF 21) (cF (.int 1))))))) (nameT 4) (yesF) (takeF (binF ixP (varF 4) (cF (.int 1)))) [4]
noncomputable def lc__law_seen_3 : M Rs := lcF (itF (takeF (slF (varF 12) (inP (binF addP (varF 16) (cF (.int 1)))) (inP (binF addP (varF 21) (cF (.int 1))))))) (nameT 4) (yesF) (takeF (binF ixP (varF 4) (cF (.int 2)))) [4]
noncomputable def fr__law_seen_2 : M Fl := forF (itF (takeF (varF 6))) (tupT (consT (nameT 19) (consT (nameT 20) (nilT)))) (seqF (setF 21 (pmF indexP (varF 3) (consF (varF 19) (nilF))))
  (seqF (parF 17 18 (binF addP (varF 17) (calF sumP (consF (lc__law_seen_2) (nilF)))) (binF addP (varF 18) (calF sumP (consF (lc__law_seen_3) (nilF)))))
  (seqF (parF 15 16 (andVF (varF 15) (chF leP leP (varF 17) (varF 20) (varF 18))) (valF (takeF (varF 21))))
  (parF 17 18 (valF (takeF (varF 20))) (valF (takeF (varF 20)))))))
noncomputable def lc__law_seen_4 : M Rs := lcF (itF (takeF (varF 6))) (tupT (consT (nameT 19) (consT (nameT 20) (nilT)))) (tstF (binF geP (varF 20) (methF 6 FWalk_turn_at (varF 1) (consF (valF (takeF (varF 19))) (nilF))))) (takeF (varF 19)) [19, 20]
noncomputable def lc__law_seen_5 : M Rs := lcF (itF (takeF (slF (varF 4) (inP (cF (.int 1))) (noP)))) (nameT 22) (yesF) (takeF (binF addP (varF 22) (binF fdivP (binF addP (binF mulP (varF 22) (varF 8)) (cF (.int 9))) (cF (.int 10))))) [22]
noncomputable def lc__law_seen_6 : M Rs := lcF (itF (takeF (varF 12))) (nameT 4) (yesF) (takeF (binF addP (slF (varF 4) (noP) (inP (cF (.int 1)))) (calF tupleP (consF (lc__law_seen_5) (nilF))))) [4]
noncomputable def B_law_seen : M Fl := seqF (asgF (tupT (consT (nameT 10) (consT (nameT 11) (consT (nameT 12) (nilT))))) (takeF (varF 2)))
  (seqF (parF 13 14 (valF (takeF (varF 10))) (lstF (nilF)))
  (seqF (fr__law_seen_1)
  (seqF (setF 5 (callF (F_law_some) (consF (varF 0) (consF (valF (takeF (varF 14))) (nilF)))))
  (seqF (ifF (notF (tstF (callF (F_law_truth) (consF (valF (takeF (methF 6 FWalk_can_be (varF 1) (consF (valF (takeF (varF 5))) (nilF))))) (consF (cF (.bl true)) (nilF)))))) (retF (cF (.bl false))) (skipF))
  (seqF (setF 6 (lc__law_seen_1))
  (seqF (asgF (tupT (consT (nameT 15) (consT (nameT 16) (consT (nameT 17) (consT (nameT 18) (nilT)))))) (takeF (tupF (consF (cF (.bl true)) (consF (unF negP (cF (.int 1))) (consF (valF (takeF (varF 10))) (consF (valF (takeF (varF 10))) (nilF))))))))
  (seqF (fr__law_seen_2)
  (seqF (setF 7 (lc__law_seen_4))
  (seqF (ifF (orF (notF (tstF (callF (F_law_truth) (consF (valF (takeF (methF 6 FWalk_can_be (varF 1) (consF (valF (takeF (varF 6))) (nilF))))) (consF (valF (takeF (varF 15))) (nilF)))))) (orF (tstF (binF neP (methF 6 FWalk_must_turn (varF 1) (consF (valF (takeF (varF 6))) (nilF))) (binF ixP (binF addP (varF 7) (lstF (consF (cF .non) (nilF)))) (cF (.int 0))))) (andF (tstF (binF gtP (calF lenP (consF (varF 14) (nilF))) (cF (.int 1)))) (tstF (methF 6 FWalk_can_be (varF 1) (consF (valF (takeF (unF revP (varF 14)))) (nilF))))))) (retF (cF (.bl false))) (skipF))
  (seqF (setF 8 (callF (F_law_taken) (consF (varF 0) (consF (cF (.int 11)) (nilF)))))
  (seqF (setF 9 (lc__law_seen_6))
  (retF (andVF (oeF 6 FWalk_eq false (takeF (methF 6 FWalk_slower (varF 1) (consF (valF (takeF (varF 8))) (nilF)))) (takeF (mkF 6 FWalk_init (consF (valF (takeF (varF 10))) (consF (valF (takeF (varF 11))) (consF (valF (takeF (varF 9))) (nilF))))))) (orVF (binF eqP (varF 11) (varF 10)) (oeF 6 FWalk_eq false (takeF (methF 6 FWalk_later (varF 1) (consF (cF (.int 1)) (nilF)))) (takeF (mkF 6 FWalk_init (consF (valF (takeF (binF addP (varF 10) (cF (.int 1))))) (consF (valF (takeF (varF 11))) (consF (valF (takeF (varF 12))) (nilF)))))))))))))))))))))
noncomputable def F_law_seen : FN := fnF 19 B_law_seen
noncomputable def lc__law_strange_1 : M Rs := lcF (rng1F (consF (cF (.int 400)) (nilF))) (nameT 2) (yesF) (takeF (binF addP (cF (.str "q")) (calF strP (consF (varF 2) (nilF))))) [2]
noncomputable def lc__law_strange_2 : M Rs := lcF (itF (takeF (lc__law_strange_1))) (nameT 1) (tstF (binF (inXP true) (varF 1) (varF 0))) (takeF (varF 1)) [1]
noncomputable def B_law_strange : M Fl := retF (binF ixP (lc__law_strange_2) (cF (.int 0)))
noncomputable def F_law_strange : FN := fnF 2 B_law_strange
noncomputable def Bwant_minute : M Fl := seqF (ifF (notF (tstF (callF (Fis_number) (consF (valF (takeF (varF 0))) (consF (cF (.int 0)) (consF (cF (.int 1440)) (nilF))))))) (raiseF 2 1 (consF (valF (takeF (varF 0))) (nilF))) (skipF))
  (retF (varF 0))
noncomputable def Fwant_minute : FN := fnF 0 Bwant_minute
noncomputable def B_law_whole : M Fl := retF (andVF (calF isiP' (consF (varF 0) (consF (cF (.ty "int")) (nilF)))) (notVF (calF isiP' (consF (varF 0) (consF (cF (.ty "bool")) (nilF))))))
noncomputable def F_law_whole : FN := fnF 0 B_law_whole
noncomputable def B_law_refused_row : M Fl := retF (andVF (binF eqP (varF 0) (varF 1)) (binF eqP (callF (F_law_whole) (consF (binF ixP (varF 0) (cF (.int 1))) (nilF))) (callF (F_law_whole) (consF (binF ixP (varF 1) (cF (.int 1))) (nilF)))))
noncomputable def F_law_refused_row : FN := fnF 0 B_law_refused_row
noncomputable def B_law_raised : M Fl := seqF (tryMF sub_k15 7 (dropF (mkF 6 FWalk_init (consF (binF ixP (varF 0) (cF (.int 0))) (consF (binF ixP (varF 0) (cF (.int 1))) (consF (binF ixP (varF 0) (cF (.int 2))) (nilF)))))) [(1, 2, fun _ ps => retF (tupF (consF (cF (.str "item")) (consF (xfF ps 0) (nilF))))), (1, 3, fun _ ps => retF (tupF (consF (cF (.str "many")) (consF (xfF ps 0) (nilF))))), (1, 5, fun _ ps => retF (tupF (consF (cF (.str "taken")) (consF (xfF ps 0) (nilF))))), (1, 1, fun _ ps => retF (tupF (consF (cF (.str "number")) (consF (xfF ps 0) (nilF)))))])
  (retF (cF .non))
noncomputable def F_law_raised : FN := fnF 1 B_law_raised
noncomputable def fr__law_refused_1 : M Fl := forF (rng1F (consF (cF (.int 5)) (nilF))) (nameT 5) (tryF sub_k15 7 13 4 (seqF (ifF (tstF (binF eqP (varF 5) (cF (.int 0)))) (dropF (methF 6 FWalk_place (varF 1) (consF (valF (takeF (varF 4))) (nilF)))) (ifF (tstF (binF eqP (varF 5) (cF (.int 1)))) (dropF (methF 6 FWalk_arrives (varF 1) (consF (valF (takeF (varF 4))) (nilF)))) (ifF (tstF (binF eqP (varF 5) (cF (.int 2)))) (dropF (methF 6 FWalk_turn_at (varF 1) (consF (valF (takeF (varF 4))) (nilF)))) (ifF (tstF (binF eqP (varF 5) (cF (.int 3)))) (dropF (methF 6 FWalk_must_turn (varF 1) (consF (valF (takeF (lstF (consF (tupF (consF (valF (takeF (varF 4))) (consF (cF (.int 1)) (nilF)))) (nilF))))) (nilF)))) (dropF (methF 6 FWalk_can_be (varF 1) (consF (valF (takeF (lstF (consF (tupF (consF (valF (takeF (varF 4))) (consF (cF (.int 1)) (nilF)))) (nilF))))) (nilF))))))))
  (retF (cF (.bl false)))) (fun _ ps => ifF (tstF (binF neP (xfF ps 0) (varF 4))) (retF (cF (.bl false))) (skipF)))
noncomputable def fr__law_refused_2 : M Fl := forF (itF (takeF (lstF (consF (unF negP (cF (.int 1))) (consF (cF (.int 1441)) (consF (cF (.bl true)) (consF (cF .non) (nilF)))))))) (nameT 6) (tryF sub_k15 7 13 2 (seqF (dropF (callF (Fwant_minute) (consF (valF (takeF (varF 6))) (nilF))))
  (retF (cF (.bl false)))) (fun _ ps => ifF (tstF (binF neP (calF reprP (consF (xfF ps 0) (nilF))) (calF reprP (consF (varF 6) (nilF))))) (retF (cF (.bl false))) (skipF)))
noncomputable def lc__law_refused_1 : M Rs := lcF (rng1F (consF (cF (.int 11)) (nilF))) (nameT 15) (yesF) (takeF (tupF (consF (valF (takeF (binF addP (cF (.str "n")) (calF strP (consF (varF 15) (nilF)))))) (consF (cF (.int 1)) (consF (cF (.int 1)) (consF (cF (.int 1)) (consF (cF (.int 1)) (nilF)))))))) [15]
noncomputable def lc__law_refused_2 : M Rs := lcF (itF (takeF (varF 9))) (nameT 14) (notF (tstF (callF (F_law_refused_row) (consF (valF (takeF (callF (F_law_raised) (consF (binF ixP (varF 14) (cF (.int 0))) (nilF))))) (consF (binF ixP (varF 14) (cF (.int 1))) (nilF)))))) (takeF (varF 14)) [14]
noncomputable def B_law_refused : M Fl := seqF (asgF (tupT (consT (nameT 10) (consT (nameT 11) (consT (nameT 12) (nilT))))) (takeF (varF 2)))
  (seqF (setF 4 (callF (F_law_strange) (consF (valF (takeF (varF 3))) (nilF))))
  (seqF (fr__law_refused_1)
  (seqF (fr__law_refused_2)
  (seqF (setF 7 (callF (F_law_pick) (consF (varF 0) (consF (valF (takeF (lstF (consF (tupF (consF (cF (.str "")) (consF (cF (.int 1)) (consF (cF (.int 1)) (consF (cF (.int 1)) (consF (cF (.int 1)) (nilF))))))) (consF (tupF (consF (cF (.str "a")) (consF (cF (.int 0)) (consF (cF (.int 1)) (consF (cF (.int 1)) (consF (cF (.int 1)) (nilF))))))) (consF (tupF (consF (cF (.str "a")) (consF (cF (.int 2)) (consF (cF (.int 1)) (consF (cF (.int 1)) (consF (cF (.int 1)) (nilF))))))) (consF (tupF (consF (cF (.str "a")) (consF (cF (.int 1)) (consF (cF (.int 1)) (consF (cF (.int 2)) (consF (cF (.int 1)) (nilF))))))) (consF (tupF (consF (cF (.str "a")) (consF (cF (.int 1)) (consF (cF (.int 301)) (consF (cF (.int 1)) (consF (cF (.int 1)) (nilF))))))) (consF (tupF (consF (cF (.str "a")) (consF (cF (.int 1)) (consF (cF (.int 1)) (consF (cF (.int 1)) (nilF)))))) (consF (cF .non) (nilF))))))))))) (nilF)))))
  (seqF (setF 8 (callF (F_law_pick) (consF (varF 0) (consF (valF (takeF (lstF (consF (unF negP (cF (.int 1))) (consF (cF (.int 1441)) (consF (cF (.bl true)) (consF (cF .non) (nilF)))))))) (nilF)))))
  (seqF (setF 9 (lstF (consF (tupF (consF (tupF (consF (valF (takeF (varF 8))) (consF (cF (.int 1440)) (consF (tupF (nilF)) (nilF))))) (consF (tupF (consF (cF (.str "number")) (consF (valF (takeF (varF 8))) (nilF)))) (nilF)))) (consF (tupF (consF (tupF (consF (cF (.int 5)) (consF (valF (takeF (varF 8))) (consF (tupF (nilF)) (nilF))))) (consF (tupF (consF (cF (.str "number")) (consF (valF (takeF (varF 8))) (nilF)))) (nilF)))) (consF (tupF (consF (tupF (consF (cF (.int 5)) (consF (cF (.int 4)) (consF (tupF (nilF)) (nilF))))) (consF (tupF (consF (cF (.str "number")) (consF (cF (.int 4)) (nilF)))) (nilF)))) (consF (tupF (consF (tupF (consF (valF (takeF (varF 10))) (consF (valF (takeF (varF 11))) (consF (valF (takeF (binF addP (varF 12) (tupF (consF (valF (takeF (varF 7))) (nilF)))))) (nilF))))) (consF (tupF (consF (cF (.str "item")) (consF (calF lenP (consF (varF 12) (nilF))) (nilF)))) (nilF)))) (nilF)))))))
  (seqF (setF 9 (binF addP (varF 9) (lstF (consF (tupF (consF (tupF (consF (valF (takeF (varF 10))) (consF (valF (takeF (varF 11))) (consF (cF .non) (nilF))))) (consF (tupF (consF (cF (.str "item")) (consF (cF .non) (nilF)))) (nilF)))) (consF (tupF (consF (tupF (consF (valF (takeF (varF 10))) (consF (valF (takeF (varF 11))) (consF (valF (takeF (lc__law_refused_1))) (nilF))))) (consF (tupF (consF (cF (.str "many")) (consF (cF (.int 10)) (nilF)))) (nilF)))) (nilF))))))
  (seqF (setF 9 (binF addP (varF 9) (lstF (consF (tupF (consF (tupF (consF (valF (takeF (varF 10))) (consF (valF (takeF (varF 11))) (consF (valF (takeF (binF mulP (tupF (consF (tupF (consF (cF (.str "a")) (consF (cF (.int 1)) (consF (cF (.int 1)) (consF (cF (.int 1)) (consF (cF (.int 1)) (nilF))))))) (nilF))) (cF (.int 2))))) (nilF))))) (consF (tupF (consF (cF (.str "taken")) (consF (cF (.str "a")) (nilF)))) (nilF)))) (nilF)))))
  (retF (andVF (binF eqP (lc__law_refused_2) (lstF (nilF))) (binF eqP (callF (Fwant_minute) (consF (cF (.int 1440)) (nilF))) (cF (.int 1440)))))))))))))
noncomputable def F_law_refused : FN := fnF 12 B_law_refused
noncomputable def B_law_mixed : M Fl := seqF (ifF (tstF (binF eqP (callF (F_law_taken) (consF (varF 0) (consF (cF (.int 2)) (nilF)))) (cF (.int 0)))) (retF (calF listP (consF (varF 1) (nilF)))) (skipF))
  (retF (calF tupleP (consF (varF 1) (nilF))))
noncomputable def F_law_mixed : FN := fnF 0 B_law_mixed
noncomputable def B_law_alike (Fd : FN) : M Fl := seqF (ifF (tstF (calF isiP' (consF (varF 1) (consF (tupF (consF (cF (.ty "tuple")) (consF (cF (.ty "list")) (nilF)))) (nilF))))) (seqF (ifF (orF (notF (tstF (calF isiP' (consF (varF 0) (consF (tupF (consF (cF (.ty "tuple")) (consF (cF (.ty "list")) (nilF)))) (nilF)))))) (tstF (binF neP (calF isiP' (consF (varF 0) (consF (cF (.ty "list")) (nilF)))) (calF isiP' (consF (varF 1) (consF (cF (.ty "list")) (nilF))))))) (retF (cF (.bl false))) (skipF))
  (seqF (ifF (tstF (binF neP (calF lenP (consF (varF 0) (nilF))) (calF lenP (consF (varF 1) (nilF))))) (retF (cF (.bl false))) (skipF))
  (retF (binF eqP (lcF (rng1F (consF (calF lenP (consF (varF 1) (nilF))) (nilF))) (nameT 2) (notF (tstF (callF Fd (consF (binF ixP (varF 0) (varF 2)) (consF (binF ixP (varF 1) (varF 2)) (nilF)))))) (takeF (varF 2)) [2]) (lstF (nilF)))))) (skipF))
  (seqF (ifF (orF (tstF (binF (isNP false) (varF 1) (cF .non))) (tstF (calF isiP' (consF (varF 1) (consF (cF (.ty "str")) (nilF)))))) (retF (andVF (binF eqP (varF 0) (varF 1)) (binF eqP (calF isiP' (consF (varF 0) (consF (cF (.ty "str")) (nilF)))) (calF isiP' (consF (varF 1) (consF (cF (.ty "str")) (nilF))))))) (skipF))
  (retF (andVF (calF isiP' (consF (varF 0) (consF (cF (.ty "int")) (nilF)))) (andVF (binF eqP (calF isiP' (consF (varF 0) (consF (cF (.ty "bool")) (nilF)))) (calF isiP' (consF (varF 1) (consF (cF (.ty "bool")) (nilF))))) (binF eqP (varF 0) (varF 1))))))
noncomputable def F_law_alike : Nat → FN
  | 0 => fun _ => .bad
  | d + 1 => fnF 1 (B_law_alike (F_law_alike d))
noncomputable def BWalk_next_bounds : M Fl := seqF (setF 3 (binF addP (methF 6 FWalk_place (varF 0) (consF (valF (takeF (varF 1))) (nilF))) (cF (.int 1))))
  (retF (ifEF (tstF (binF ltP (varF 3) (calF lenP (consF (unF (fldP lay_k15 6 "legs") (varF 0)) (nilF))))) (tupF (consF (valF (takeF (binF addP (varF 2) (binF ixP (binF ixP (unF (fldP lay_k15 6 "legs") (varF 0)) (varF 3)) (cF (.int 1)))))) (consF (valF (takeF (binF addP (varF 2) (binF ixP (binF ixP (unF (fldP lay_k15 6 "legs") (varF 0)) (varF 3)) (cF (.int 2)))))) (nilF)))) (cF .non)))
noncomputable def FWalk_next_bounds : FN := fnF 1 BWalk_next_bounds
noncomputable def BWalk_may_be_back : M Fl := retF (binF leP (binF addP (binF ixP (methF 6 FWalk_arrives (varF 0) (consF (valF (takeF (varF 1))) (nilF))) (cF (.int 0))) (binF ixP (methF 6 FWalk_back (varF 0) (consF (valF (takeF (varF 1))) (nilF))) (cF (.int 0)))) (unF (fldP lay_k15 6 "dark") (varF 0)))
noncomputable def FWalk_may_be_back : FN := fnF 0 BWalk_may_be_back
noncomputable def BWalk_rest_at : M Fl := retF (binF subP (methF 6 FWalk_turn_at (varF 0) (consF (valF (takeF (varF 1))) (nilF))) (binF ixP (methF 6 FWalk_arrives (varF 0) (consF (valF (takeF (varF 1))) (nilF))) (cF (.int 1))))
noncomputable def FWalk_rest_at : FN := fnF 0 BWalk_rest_at
noncomputable def BWalk_latest_begin : M Fl := retF (binF addP (unF (fldP lay_k15 6 "begin") (varF 0)) (methF 6 FWalk_rest_at (varF 0) (consF (valF (takeF (varF 1))) (nilF))))
noncomputable def FWalk_latest_begin : FN := fnF 0 BWalk_latest_begin
noncomputable def BWalk_go_on : M Fl := seqF (setF 3 (binF addP (methF 6 FWalk_place (varF 0) (consF (valF (takeF (varF 1))) (nilF))) (cF (.int 1))))
  (seqF (ifF (tstF (binF geP (varF 3) (calF lenP (consF (unF (fldP lay_k15 6 "legs") (varF 0)) (nilF))))) (retF (cF (.bl false))) (skipF))
  (retF (binF leP (binF addP (varF 2) (binF ixP (binF ixP (unF (fldP lay_k15 6 "legs") (varF 0)) (varF 3)) (cF (.int 2)))) (methF 6 FWalk_turn_at (varF 0) (consF (binF ixP (binF ixP (unF (fldP lay_k15 6 "legs") (varF 0)) (varF 3)) (cF (.int 0))) (nilF))))))
noncomputable def FWalk_go_on : FN := fnF 1 BWalk_go_on
noncomputable def fr_law_1 : M Fl := forF (itF (takeF (slF (varF 6) (noP) (inP (callF (F_law_taken) (consF (varF 1) (consF (cF (.int 6)) (nilF)))))))) (nameT 2) (seqF (parF 14 16 (binF addP (cF (.int 1)) (callF (F_law_taken) (consF (varF 1) (consF (cF (.int 40)) (nilF))))) (binF addP (cF (.int 1)) (callF (F_law_taken) (consF (varF 1) (consF (cF (.int 40)) (nilF))))))
  (dropF (mutF appP 7 (consF (tupF (consF (valF (takeF (varF 2))) (consF (valF (takeF (varF 14))) (consF (valF (takeF (binF addP (varF 14) (callF (F_law_taken) (consF (varF 1) (consF (cF (.int 20)) (nilF))))))) (consF (valF (takeF (varF 16))) (consF (valF (takeF (binF addP (varF 16) (callF (F_law_taken) (consF (varF 1) (consF (cF (.int 20)) (nilF))))))) (nilF))))))) (nilF)))))
noncomputable def lc_law_1 : M Rs := lcF (itF (takeF (varF 7))) (nameT 13) (yesF) (takeF (callF (F_law_mixed) (consF (varF 1) (consF (valF (takeF (varF 13))) (nilF))))) [13]
noncomputable def lc_law_2 : M Rs := lcF (itF (takeF (varF 7))) (nameT 13) (yesF) (takeF (binF ixP (varF 13) (cF (.int 0)))) [13]
noncomputable def lc_law_3 : M Rs := lcF (itF (takeF (slF (varF 7) (noP) (inP (binF addP (varF 4) (cF (.int 1))))))) (nameT 13) (yesF) (takeF (binF ixP (varF 13) (varF 21))) [13]
noncomputable def lc_law_4 : M Rs := lcF (itF (takeF (tupF (consF (cF (.int 1)) (consF (cF (.int 2)) (consF (cF (.int 3)) (consF (cF (.int 4)) (nilF)))))))) (nameT 21) (yesF) (takeF (calF sumP (consF (lc_law_3) (nilF)))) [21]
noncomputable def fr_law_2 : M Fl := forF (rng1F (consF (calF lenP (consF (varF 7) (nilF))) (nilF))) (nameT 4) (dropF (mutF appP 3 (consF (valF (takeF (lc_law_4))) (nilF))))
noncomputable def lc_law_5 : M Rs := lcF (rng1F (consF (calF lenP (consF (varF 7) (nilF))) (nilF))) (nameT 4) (tstF (binF leP (binF addP (binF addP (varF 8) (binF ixP (binF ixP (varF 3) (varF 4)) (cF (.int 1)))) (binF ixP (binF ixP (varF 3) (varF 4)) (cF (.int 3)))) (varF 9))) (takeF (binF ixP (varF 11) (varF 4))) [4]
noncomputable def fr_law_3 : M Fl := forF (itF (takeF (slF (varF 7) (inP (binF addP (varF 4) (cF (.int 1)))) (inP (binF addP (varF 4) (cF (.int 2))))))) (nameT 13) (seqF (setF 19 (tupF (consF (valF (takeF (binF addP (varF 12) (binF ixP (varF 13) (cF (.int 1)))))) (consF (valF (takeF (binF addP (varF 12) (binF ixP (varF 13) (cF (.int 2)))))) (nilF)))))
  (setF 20 (binF leP (binF addP (varF 12) (binF ixP (varF 13) (cF (.int 2)))) (binF subP (varF 9) (binF ixP (binF ixP (varF 3) (binF addP (varF 4) (cF (.int 1)))) (cF (.int 3)))))))
noncomputable def lc_law_6 : M Rs := lcF (itF (takeF (slF (varF 7) (noP) (inP (binF addP (varF 4) (cF (.int 1))))))) (nameT 13) (yesF) (takeF (binF addP (binF ixP (varF 13) (cF (.int 1))) (callF (F_law_taken) (consF (varF 1) (consF (valF (takeF (binF addP (binF subP (binF ixP (varF 13) (cF (.int 2))) (binF ixP (varF 13) (cF (.int 1)))) (cF (.int 1))))) (nilF)))))) [13]
noncomputable def lc_law_7 : M Rs := lcF (itF (takeF (slF (varF 7) (noP) (inP (binF addP (varF 4) (cF (.int 1))))))) (nameT 13) (yesF) (takeF (binF addP (binF ixP (varF 13) (cF (.int 3))) (callF (F_law_taken) (consF (varF 1) (consF (valF (takeF (binF addP (binF subP (binF ixP (varF 13) (cF (.int 4))) (binF ixP (varF 13) (cF (.int 3)))) (cF (.int 1))))) (nilF)))))) [13]
noncomputable def fr_law_4 : M Fl := forF (enumAF (consV (takeF (varF 11)) (nilV))) (tupT (consT (nameT 4) (consT (nameT 2) (nilT)))) (seqF (par3F 17 16 18 (consF (tupF (consF (valF (takeF (binF addP (varF 8) (binF ixP (binF ixP (varF 3) (varF 4)) (cF (.int 0)))))) (consF (valF (takeF (binF addP (varF 8) (binF ixP (binF ixP (varF 3) (varF 4)) (cF (.int 1)))))) (nilF)))) (consF (tupF (consF (binF ixP (binF ixP (varF 3) (varF 4)) (cF (.int 2))) (consF (binF ixP (binF ixP (varF 3) (varF 4)) (cF (.int 3))) (nilF)))) (consF (binF subP (varF 9) (binF ixP (binF ixP (varF 3) (varF 4)) (cF (.int 3)))) (nilF)))))
  (seqF (ifF (notF (tstF (callF (F_law_alike 5) (consF (tupF (consF (valF (takeF (methF 6 FWalk_place (varF 10) (consF (valF (takeF (varF 2))) (nilF))))) (consF (valF (takeF (methF 6 FWalk_arrives (varF 10) (consF (valF (takeF (varF 2))) (nilF))))) (consF (valF (takeF (methF 6 FWalk_back (varF 10) (consF (valF (takeF (varF 2))) (nilF))))) (consF (valF (takeF (methF 6 FWalk_turn_at (varF 10) (consF (valF (takeF (varF 2))) (nilF))))) (nilF)))))) (consF (tupF (consF (valF (takeF (varF 4))) (consF (valF (takeF (varF 17))) (consF (valF (takeF (varF 16))) (consF (valF (takeF (varF 18))) (nilF)))))) (nilF)))))) (retF (cF (.bl false))) (skipF))
  (seqF (ifF (orF (notF (tstF (callF (F_law_truth) (consF (valF (takeF (methF 6 FWalk_surely_back (varF 10) (consF (valF (takeF (varF 2))) (nilF))))) (consF (binF (inXP false) (varF 2) (varF 5)) (nilF)))))) (notF (tstF (callF (F_law_truth) (consF (valF (takeF (methF 6 FWalk_may_be_back (varF 10) (consF (valF (takeF (varF 2))) (nilF))))) (consF (binF leP (binF addP (binF ixP (varF 17) (cF (.int 0))) (binF ixP (varF 16) (cF (.int 0)))) (varF 9)) (nilF))))))) (retF (cF (.bl false))) (skipF))
  (seqF (ifF (notF (tstF (callF (F_law_alike 5) (consF (tupF (consF (valF (takeF (methF 6 FWalk_rest_at (varF 10) (consF (valF (takeF (varF 2))) (nilF))))) (consF (valF (takeF (methF 6 FWalk_latest_begin (varF 10) (consF (valF (takeF (varF 2))) (nilF))))) (nilF)))) (consF (tupF (consF (valF (takeF (binF subP (varF 18) (binF ixP (varF 17) (cF (.int 1)))))) (consF (valF (takeF (binF subP (binF addP (varF 8) (varF 18)) (binF ixP (varF 17) (cF (.int 1)))))) (nilF)))) (nilF)))))) (retF (cF (.bl false))) (skipF))
  (seqF (setF 12 (binF addP (varF 8) (callF (F_law_taken) (consF (varF 1) (consF (cF (.int 300)) (nilF))))))
  (seqF (asgF (tupT (consT (nameT 19) (consT (nameT 20) (nilT)))) (takeF (tupF (consF (cF .non) (consF (cF (.bl false)) (nilF))))))
  (seqF (fr_law_3)
  (seqF (ifF (orF (tstF (binF neP (methF 6 FWalk_next_bounds (varF 10) (consF (valF (takeF (varF 2))) (consF (valF (takeF (varF 12))) (nilF)))) (varF 19))) (notF (tstF (callF (F_law_truth) (consF (valF (takeF (methF 6 FWalk_go_on (varF 10) (consF (valF (takeF (varF 2))) (consF (valF (takeF (varF 12))) (nilF)))))) (consF (valF (takeF (varF 20))) (nilF))))))) (retF (cF (.bl false))) (skipF))
  (seqF (setF 14 (lc_law_6))
  (seqF (setF 15 (binF addP (binF addP (varF 8) (calF sumP (consF (varF 14) (nilF)))) (calF sumP (consF (lc_law_7) (nilF)))))
  (ifF (orF (andF (tstF (binF (inXP false) (varF 2) (varF 5))) (tstF (binF gtP (varF 15) (varF 9)))) (andF (tstF (binF leP (varF 15) (varF 9))) (notF (tstF (methF 6 FWalk_may_be_back (varF 10) (consF (valF (takeF (varF 2))) (nilF))))))) (retF (cF (.bl false))) (skipF))))))))))))
noncomputable def Slaw1 : M Fl := setF 1 (lstF (consF (valF (takeF (varF 0))) (consF (cF (.int 0)) (consF (cF (.int 41)) (consF (cF (.int 0)) (nilF))))))
noncomputable def Slaw2 : M Fl := par3F 6 7 8 (consF (valF (takeF (callF (F_law_names) (consF (varF 1) (consF (cF (.int 5)) (nilF)))))) (consF (lstF (nilF)) (consF (valF (takeF (callF (F_law_taken) (consF (varF 1) (consF (cF (.int 300)) (nilF)))))) (nilF))))
noncomputable def Slaw3 : M Fl := fr_law_1
noncomputable def Slaw4 : M Fl := parF 7 9 (calF tupleP (consF (varF 7) (nilF))) (binF addP (varF 8) (callF (F_law_taken) (consF (varF 1) (consF (cF (.int 400)) (nilF)))))
noncomputable def Slaw5 : M Fl := asgF (tupT (consT (nameT 10) (consT (nameT 11) (nilT)))) (takeF (tupF (consF (valF (takeF (mkF 6 FWalk_init (consF (valF (takeF (varF 8))) (consF (valF (takeF (varF 9))) (consF (valF (takeF (callF (F_law_mixed) (consF (varF 1) (consF (valF (takeF (lc_law_1))) (nilF)))))) (nilF))))))) (consF (valF (takeF (lc_law_2))) (nilF)))))
noncomputable def Slaw6 : M Fl := ifF (orF (notF (tstF (callF (F_law_alike 5) (consF (tupF (consF (unF (fldP lay_k15 6 "begin") (varF 10)) (consF (unF (fldP lay_k15 6 "dark") (varF 10)) (consF (unF (fldP lay_k15 6 "legs") (varF 10)) (nilF))))) (consF (tupF (consF (valF (takeF (varF 8))) (consF (valF (takeF (varF 9))) (consF (valF (takeF (varF 7))) (nilF))))) (nilF)))))) (orF (tstF (oeF 6 FWalk_eq true (takeF (varF 10)) (takeF (mkF 6 FWalk_init (consF (valF (takeF (varF 8))) (consF (valF (takeF (varF 9))) (consF (valF (takeF (varF 7))) (nilF)))))))) (orF (tstF (oeF 6 FWalk_eq false (takeF (varF 10)) (takeF (varF 7)))) (tstF (oeF 6 FWalk_eq false (takeF (varF 10)) (takeF (mkF 6 FWalk_init (consF (valF (takeF (varF 8))) (consF (valF (takeF (binF addP (varF 9) (cF (.int 1))))) (consF (valF (takeF (varF 7))) (nilF))))))))))) (retF (cF (.bl false))) (skipF)
noncomputable def Slaw7 : M Fl := setF 3 (lstF (nilF))
noncomputable def Slaw8 : M Fl := fr_law_2
noncomputable def Slaw9 : M Fl := setF 5 (lc_law_5)
noncomputable def Slaw10 : M Fl := ifF (tstF (binF neP (methF 6 FWalk_farthest_sure (varF 10) nilF) (binF ixP (binF addP (lstF (consF (cF .non) (nilF))) (varF 5)) (unF negP (cF (.int 1)))))) (retF (cF (.bl false))) (skipF)
noncomputable def Slaw11 : M Fl := fr_law_4
noncomputable def Slaw12 : M Fl := retF (andVF (callF (F_law_seen) (consF (varF 1) (consF (valF (takeF (varF 10))) (consF (tupF (consF (valF (takeF (varF 8))) (consF (valF (takeF (varF 9))) (consF (valF (takeF (varF 7))) (nilF))))) (consF (valF (takeF (varF 11))) (nilF)))))) (callF (F_law_refused) (consF (varF 1) (consF (valF (takeF (varF 10))) (consF (tupF (consF (valF (takeF (varF 8))) (consF (valF (takeF (varF 9))) (consF (valF (takeF (varF 7))) (nilF))))) (consF (valF (takeF (varF 6))) (nilF)))))))
noncomputable def Blaw : M Fl := seqF Slaw1 (seqF Slaw2 (seqF Slaw3 (seqF Slaw4 (seqF Slaw5 (seqF Slaw6 (seqF Slaw7 (seqF Slaw8 (seqF Slaw9 (seqF Slaw10 (seqF Slaw11 (Slaw12)))))))))))
noncomputable def Flaw : FN := fnF 21 Blaw
def top (i : Nat) : Stmt := PySem.Challenge.pw_huttohut_k15_whole_turns.main.body.getD i (.Pass ⟨0, 0, 0, 0⟩)
@[simp] theorem fld0_Walk_begin {a0 a1 a2 : P} : fldP lay_k15 6 "begin" (.obj 6 [a0]) = some (.val a0) := rfl
@[simp] theorem fld1_Walk_begin {a0 a1 a2 : P} : fldP lay_k15 6 "begin" (.obj 6 [a0, a1]) = some (.val a0) := rfl
@[simp] theorem fld_Walk_begin {a0 a1 a2 : P} : fldP lay_k15 6 "begin" (.obj 6 [a0, a1, a2]) = some (.val a0) := rfl
@[simp] theorem put_Walk_begin {a0 a1 a2 x : P} : putV "begin" x (lay_k15 6) [] = some [x] := rfl
@[simp] theorem put2_Walk_begin {a0 a1 a2 x : P} : putV "begin" x (lay_k15 6) [a0, a1, a2] = some [x, a1, a2] := rfl
@[simp] theorem fld1_Walk_dark {a0 a1 a2 : P} : fldP lay_k15 6 "dark" (.obj 6 [a0, a1]) = some (.val a1) := rfl
@[simp] theorem fld_Walk_dark {a0 a1 a2 : P} : fldP lay_k15 6 "dark" (.obj 6 [a0, a1, a2]) = some (.val a1) := rfl
@[simp] theorem put_Walk_dark {a0 a1 a2 x : P} : putV "dark" x (lay_k15 6) [a0] = some [a0, x] := rfl
@[simp] theorem put2_Walk_dark {a0 a1 a2 x : P} : putV "dark" x (lay_k15 6) [a0, a1, a2] = some [a0, x, a2] := rfl
@[simp] theorem fld_Walk_legs {a0 a1 a2 : P} : fldP lay_k15 6 "legs" (.obj 6 [a0, a1, a2]) = some (.val a2) := rfl
@[simp] theorem put_Walk_legs {a0 a1 a2 x : P} : putV "legs" x (lay_k15 6) [a0, a1] = some [a0, a1, x] := rfl
@[simp] theorem put2_Walk_legs {a0 a1 a2 x : P} : putV "legs" x (lay_k15 6) [a0, a1, a2] = some [a0, a1, x] := rfl
structure Txt (K : PySem.W.Frag) (mg : Str → Option Value) (cls fna : Nat → Addr) : Prop where
  all_ : mg "all" = none
  bool_ : mg "bool" = none
  enumerate : mg "enumerate" = none
  int_ : mg "int" = none
  isinstance : mg "isinstance" = none
  len : mg "len" = none
  list : mg "list" = none
  range : mg "range" = none
  repr : mg "repr" = none
  str_ : mg "str" = none
  sum : mg "sum" = none
  tuple : mg "tuple" = none
  g_FIGURES : ∃ t, mg "FIGURES" = some (.str "0123456789" t)
  g_LETTERS : ∃ t, mg "LETTERS" = some (.str "abcdefghijklmnopqrstuvwxyz" t)
  g_LONGEST_NAME : ∃ t, mg "LONGEST_NAME" = some (.int 12 t)
  g_MOST_POINTS : ∃ t, mg "MOST_POINTS" = some (.int 10 t)
  mg_BadNumber : mg "BadNumber" = some (.ref (cls 1))
  xf_BadNumber : XfC K (cls 1)
  no_BadNumber_value : PySem.W.findIn K (.ref (cls 1)) "value" = some none
  exm_BadNumber : ∀ C', C' < 7 → PySem.W.exmOne K (.ref (cls C')) (.ref (cls 1)) = some (sub_k15 C' 1)
  mg_BadItem : mg "BadItem" = some (.ref (cls 2))
  xf_BadItem : XfC K (cls 2)
  no_BadItem_index : PySem.W.findIn K (.ref (cls 2)) "index" = some none
  exm_BadItem : ∀ C', C' < 7 → PySem.W.exmOne K (.ref (cls C')) (.ref (cls 2)) = some (sub_k15 C' 2)
  mg_TooMany : mg "TooMany" = some (.ref (cls 3))
  xf_TooMany : XfC K (cls 3)
  no_TooMany_limit : PySem.W.findIn K (.ref (cls 3)) "limit" = some none
  exm_TooMany : ∀ C', C' < 7 → PySem.W.exmOne K (.ref (cls C')) (.ref (cls 3)) = some (sub_k15 C' 3)
  mg_Unknown : mg "Unknown" = some (.ref (cls 4))
  xf_Unknown : XfC K (cls 4)
  no_Unknown_value : PySem.W.findIn K (.ref (cls 4)) "value" = some none
  exm_Unknown : ∀ C', C' < 7 → PySem.W.exmOne K (.ref (cls C')) (.ref (cls 4)) = some (sub_k15 C' 4)
  mg_Taken : mg "Taken" = some (.ref (cls 5))
  xf_Taken : XfC K (cls 5)
  no_Taken_value : PySem.W.findIn K (.ref (cls 5)) "value" = some none
  exm_Taken : ∀ C', C' < 7 → PySem.W.exmOne K (.ref (cls C')) (.ref (cls 5)) = some (sub_k15 C' 5)
  mg_Walk : mg "Walk" = some (.ref (cls 6))
  own_Walk : OwnC K (cls 6)
  ne_Walk : PySem.W.findIn K (.ref (cls 6)) "__ne__" = some (some (.builtin "object.__ne__"))
  na_Walk_begin : NoAttr K (cls 6) "begin"
  na_Walk_dark : NoAttr K (cls 6) "dark"
  na_Walk_legs : NoAttr K (cls 6) "legs"
  fm_is_leg : mg "is_leg" = some (.ref (fna 0))
theorem of_leaf_BadNumber {C : Nat} (hm : C < 7) (h : sub_k15 C 1 = true) : C = 1 := by revert C; decide
theorem lay_BadNumber_0 {ps : List P} : ∀ vs : List V, ps.length = vs.length → ((lay_k15 1).zip vs).reverse.lookup ("value" : Str) = vs[0]? := fun vs _ => lay1 vs
theorem layne_BadNumber : lay_k15 1 ≠ [] := by decide
theorem of_leaf_BadItem {C : Nat} (hm : C < 7) (h : sub_k15 C 2 = true) : C = 2 := by revert C; decide
theorem lay_BadItem_0 {ps : List P} : ∀ vs : List V, ps.length = vs.length → ((lay_k15 2).zip vs).reverse.lookup ("index" : Str) = vs[0]? := fun vs _ => lay1 vs
theorem layne_BadItem : lay_k15 2 ≠ [] := by decide
theorem of_leaf_TooMany {C : Nat} (hm : C < 7) (h : sub_k15 C 3 = true) : C = 3 := by revert C; decide
theorem lay_TooMany_0 {ps : List P} : ∀ vs : List V, ps.length = vs.length → ((lay_k15 3).zip vs).reverse.lookup ("limit" : Str) = vs[0]? := fun vs _ => lay1 vs
theorem layne_TooMany : lay_k15 3 ≠ [] := by decide
theorem of_leaf_Unknown {C : Nat} (hm : C < 7) (h : sub_k15 C 4 = true) : C = 4 := by revert C; decide
theorem lay_Unknown_0 {ps : List P} : ∀ vs : List V, ps.length = vs.length → ((lay_k15 4).zip vs).reverse.lookup ("value" : Str) = vs[0]? := fun vs _ => lay1 vs
theorem layne_Unknown : lay_k15 4 ≠ [] := by decide
theorem of_leaf_Taken {C : Nat} (hm : C < 7) (h : sub_k15 C 5 = true) : C = 5 := by revert C; decide
theorem lay_Taken_0 {ps : List P} : ∀ vs : List V, ps.length = vs.length → ((lay_k15 5).zip vs).reverse.lookup ("value" : Str) = vs[0]? := fun vs _ => lay1 vs
theorem layne_Taken : lay_k15 5 ≠ [] := by decide
end PV

set_option maxHeartbeats 4000000
namespace PV
open PySem PySem.Spec L2 PyProof.Rows
section
variable {p : Program} {w : World} {K : PySem.W.Frag} {mg : Str → Option Value} {base : Heap} {cls fna : Nat → Addr}
theorem sc_law_taken : FnScope ["row", "many", "cell", "found"] ["row", "many"] (defScope (top 24)) := ⟨rfl, rfl, rfl, by decide +kernel, rfl, by decide +kernel, by decide +kernel⟩
theorem ok_law_taken (T : Txt K mg cls fna) (D : At K mg "_law_taken" (top 24) ["row", "many"]) : Ca p w K mg base (cx K cls fna) 1 "_law_taken" 2 (F_law_taken) := by
  have S := @sc_law_taken
  unfold F_law_taken
  refine ca_of (N := ["row", "many", "cell", "found"]) (ps := ["row", "many"]) (body := B_law_taken) D S rfl rfl fun f cdv A outer s H E gd hr => ?_
  unfold B_law_taken
  exact (s_cons (s_if (p_tcmp op_gt v_cmp (p_ix ix_seq v_ix (p_var 0) p_int (fun _ _ => rfl)) p_int rfl) (s_cons (s_set S.nd (i := 3) rfl (.inl rfl) (p_bin op_mod v_mod (p_bty call_int1 v_int rfl T.int_ bb_int (pr_cons (p_ix ix_seq v_ix (p_var 0) p_int (fun _ _ => rfl)) pr_nil)) (p_var 1)))
  (s_cons (s_st (p_var 0) p_int (p_take (p_bin op_fdivW v_fdiv (p_ix ix_seq v_ix (p_var 0) p_int (fun _ _ => rfl)) (p_var 1))))
  (s_one (s_ret (p_var 3))))) s_nil)
  (s_cons (s_st (p_var 0) p_int (p_take (p_bin op_add4 v_add (p_ix ix_seq v_ix (p_var 0) p_int (fun _ _ => rfl)) p_int)))
  (s_cons (s_if (p_tcmp op_gt v_cmp (p_ix ix_seq v_ix (p_var 0) p_int (fun _ _ => rfl)) (p_blt cl_len v_len rfl T.len bb_len (pr_cons (p_ix ix_seq v_ix (p_var 0) p_int (fun _ _ => rfl)) pr_nil)) rfl) (s_cons (s_st (p_var 0) p_int (p_take (p_bin op_mod v_mod (p_bty call_int1 v_int rfl T.int_ bb_int (pr_cons (p_bin op_add4 v_add (p_bin op_mul3 v_mul (p_ix ix_seq v_ix (p_var 0) p_int (fun _ _ => rfl)) p_int) p_int) pr_nil)) p_int)))
  (s_one (s_ret (p_bin op_mod v_mod (p_bty call_int1 v_int rfl T.int_ bb_int (pr_cons (p_bin op_fdivW v_fdiv (p_ix ix_seq v_ix (p_var 0) p_int (fun _ _ => rfl)) p_int) pr_nil)) (p_var 1))))) s_nil)
  (s_cons (s_set S.nd (i := 2) rfl (.inl rfl) (p_ix ix_seq v_ix (p_ix ix_seq v_ix (p_var 0) p_int (fun _ _ => rfl)) (p_bin op_sub v_sub (p_ix ix_seq v_ix (p_var 0) p_int (fun _ _ => rfl)) p_int) (fun _ _ => rfl)))
  (s_cons (s_st (p_var 0) p_int (p_take (p_bin op_mod v_mod (p_bty call_int1 v_int rfl T.int_ bb_int (pr_cons (p_bin op_add4 v_add (p_bin op_add4 v_add (p_bin op_mul3 v_mul (p_ix ix_seq v_ix (p_var 0) p_int (fun _ _ => rfl)) p_int) (p_var 2)) p_int) pr_nil)) p_int)))
  (s_cons (s_if (p_tcmp op_ge v_cmp (p_var 2) (p_bin op_pow v_pow p_int p_int) rfl) (s_one (s_st (p_var 0) p_int (p_take (p_bin op_fdivW v_fdiv (p_var 2) (p_var 1))))) s_nil)
  (s_one (s_ret (p_bin op_mod v_mod (p_bty call_int1 v_int rfl T.int_ bb_int (pr_cons (p_var 2) pr_nil)) (p_var 1))))))))))

end
end PV

set_option maxHeartbeats 4000000
namespace PV
open PySem PySem.Spec L2 PyProof.Rows
section
variable {p : Program} {w : World} {K : PySem.W.Frag} {mg : Str → Option Value} {base : Heap} {cls fna : Nat → Addr}
theorem sc_law_pick : FnScope ["row", "kinds"] ["row", "kinds"] (defScope (top 25)) := ⟨rfl, rfl, rfl, by decide +kernel, rfl, by decide +kernel, by decide +kernel⟩
theorem ok_law_pick (T : Txt K mg cls fna) (D : At K mg "_law_pick" (top 25) ["row", "kinds"]) (C_law_taken : Ca p w K mg base (cx K cls fna) 1 "_law_taken" 2 (F_law_taken)) : Ca p w K mg base (cx K cls fna) 2 "_law_pick" 2 (F_law_pick) := by
  have S := @sc_law_pick
  unfold F_law_pick
  refine ca_of (N := ["row", "kinds"]) (ps := ["row", "kinds"]) (body := B_law_pick) D S rfl rfl fun f cdv A outer s H E gd hr => ?_
  unfold B_law_pick
  exact (s_one (s_ret (p_ix ix_seq v_ix (p_var 1) (p_ca C_law_taken (by omega) gd hr (takes_of rfl rfl rfl rfl) rfl (pr_cons (p_var 0) (pr_cons (p_blt cl_len v_len rfl T.len bb_len (pr_cons (p_var 1) pr_nil)) pr_nil)) (len_cons (len_cons len_nil))) (fun _ _ => rfl))))

end
end PV

set_option maxHeartbeats 4000000
namespace PV
open PySem PySem.Spec L2 PyProof.Rows
section
variable {p : Program} {w : World} {K : PySem.W.Frag} {mg : Str → Option Value} {base : Heap} {cls fna : Nat → Addr}
theorem sc_law_name : FnScope ["row", "signs", "size", "found", "k"] ["row"] (defScope (top 28)) := ⟨rfl, rfl, rfl, by decide +kernel, rfl, by decide +kernel, by decide +kernel⟩
theorem ok_law_name (T : Txt K mg cls fna) (D : At K mg "_law_name" (top 28) ["row"]) (C_law_pick : Ca p w K mg base (cx K cls fna) 2 "_law_pick" 2 (F_law_pick)) (C_law_taken : Ca p w K mg base (cx K cls fna) 1 "_law_taken" 2 (F_law_taken)) : Ca p w K mg base (cx K cls fna) 3 "_law_name" 1 (F_law_name) := by
  have S := @sc_law_name
  unfold F_law_name
  refine ca_of (N := ["row", "signs", "size", "found", "k"]) (ps := ["row"]) (body := B_law_name) D S rfl rfl fun f cdv A outer s H E gd hr => ?_
  unfold B_law_name
  exact (s_cons (s_set S.nd (i := 1) rfl (.inl rfl) p_str)
  (s_cons (s_set S.nd (i := 2) rfl (.inl rfl) (p_ca C_law_pick (by omega) gd hr (takes_of rfl rfl rfl rfl) rfl (pr_cons (p_var 0) (pr_cons (p_val (p_take (p_lst (pr_cons p_int (pr_cons p_int (pr_cons p_int (pr_cons p_int (pr_cons p_int (pr_cons p_int pr_nil))))))))) pr_nil)) (len_cons (len_cons len_nil))))
  (s_cons (s_set S.nd (i := 3) rfl (.inl rfl) (p_ix ix_seq v_ix (p_var 1) (p_ca C_law_taken (by omega) gd hr (takes_of rfl rfl rfl rfl) rfl (pr_cons (p_var 0) (pr_cons p_int pr_nil)) (len_cons (len_cons len_nil))) (fun _ _ => rfl)))
  (s_cons (s_for (passes_of rfl) rfl (i_range1 rfl T.range (pr_cons (p_bin op_sub v_sub (p_var 2) p_int) pr_nil)) (g_name S.nd rfl (.inl rfl) (i := 4)) (s_one (s_set S.nd (i := 3) rfl (.inl rfl) (p_bin op_add4 v_add (p_var 3) (p_ix ix_seq v_ix (p_var 1) (p_ca C_law_taken (by omega) gd hr (takes_of rfl rfl rfl rfl) rfl (pr_cons (p_var 0) (pr_cons p_int pr_nil)) (len_cons (len_cons len_nil))) (fun _ _ => rfl))))))
  (s_one (s_ret (p_var 3)))))))

end
end PV

set_option maxHeartbeats 4000000
namespace PV
open PySem PySem.Spec L2 PyProof.Rows
section
variable {p : Program} {w : World} {K : PySem.W.Frag} {mg : Str → Option Value} {base : Heap} {cls fna : Nat → Addr}
theorem sc_law_names : FnScope ["row", "many", "found", "k", "name", "spare", "turn", "one"] ["row", "many"] (defScope (top 29)) := ⟨rfl, rfl, rfl, by decide +kernel, rfl, by decide +kernel, by decide +kernel⟩
theorem ok_law_names (T : Txt K mg cls fna) (D : At K mg "_law_names" (top 29) ["row", "many"]) (C_law_name : Ca p w K mg base (cx K cls fna) 3 "_law_name" 1 (F_law_name)) : Ca p w K mg base (cx K cls fna) 4 "_law_names" 2 (F_law_names) := by
  have S := @sc_law_names
  unfold F_law_names
  refine ca_of (N := ["row", "many", "found", "k", "name", "spare", "turn", "one"]) (ps := ["row", "many"]) (body := B_law_names) D S rfl rfl fun f cdv A outer s H E gd hr => ?_
  unfold B_law_names
  exact (s_cons (s_set S.nd (i := 2) rfl (.inr rfl) (p_lst pr_nil))
  (s_cons (s_for (passes_of rfl) rfl (i_range1 rfl T.range (pr_cons (p_var 1) pr_nil)) (g_name S.nd rfl (.inl rfl) (i := 3)) (s_cons (s_set S.nd (i := 4) rfl (.inr rfl) (p_ca C_law_name (by omega) gd hr (takes_of rfl rfl rfl rfl) rfl (pr_cons (p_var 0) pr_nil) (len_cons len_nil)))
  (s_cons (s_set S.nd (i := 5) rfl (.inl rfl) (p_bin op_add4 v_add (p_lst (pr_cons (p_val (p_take (p_var 4))) pr_nil)) (p_lc (own := [("turn", 6)]) (by decide) rfl S.nd (i_range1 rfl T.range (pr_cons p_int pr_nil)) (blkOk_by (N := ["row", "many", "found", "k", "name", "spare", "turn", "one"]) (sc := defScope (top 29)) (own := [("turn", 6)]) (by decide +kernel)) (fun _ _ _ _ _ => (g_name S.nd rfl (.inl rfl) (i := 6))) (fun _ _ _ _ _ => t_yes) (fun _ _ _ _ _ => (p_take (p_bin op_add4 v_add (p_slT (p_var 4) o_no (o_in p_int)) (p_bty call_str2 v_str2 rfl T.str_ bb_str (pr_cons (p_var 6) pr_nil))))))))
  (s_one (s_expr (p_mut PySem.F.plainAttrs_list PySem.F.slot_list_append PySem.F.type_list_append mt_append v_append (p_var 2) (pr_cons (p_ix ix_seq v_ix (p_lc (own := [("one", 7)]) (by decide) rfl S.nd (i_seq rfl (p_take (p_var 5))) (blkOk_by (N := ["row", "many", "found", "k", "name", "spare", "turn", "one"]) (sc := defScope (top 29)) (own := [("one", 7)]) (by decide +kernel)) (fun _ _ _ _ _ => (g_name S.nd rfl (.inl rfl) (i := 7))) (fun _ _ _ _ _ => (t_one (p_tcmp (op_notInX (hu65 hr)) v_ninX (p_var 7) (p_var 2) rfl))) (fun _ _ _ _ _ => (p_take (p_var 7)))) p_int (fun _ _ => rfl)) pr_nil)))))))
  (s_one (s_ret (p_var 2)))))

end
end PV

set_option maxHeartbeats 4000000
namespace PV
open PySem PySem.Spec L2 PyProof.Rows
section
variable {p : Program} {w : World} {K : PySem.W.Frag} {mg : Str → Option Value} {base : Heap} {cls fna : Nat → Addr}
theorem scis_whole : FnScope ["value"] ["value"] (defScope (top 11)) := ⟨rfl, rfl, rfl, by decide +kernel, rfl, by decide +kernel, by decide +kernel⟩
theorem okis_whole (T : Txt K mg cls fna) (D : At K mg "is_whole" (top 11) ["value"]) : Ca p w K mg base (cx K cls fna) 1 "is_whole" 1 (Fis_whole) := by
  have S := @scis_whole
  unfold Fis_whole
  refine ca_of (N := ["value"]) (ps := ["value"]) (body := Bis_whole) D S rfl rfl fun f cdv A outer s H E gd hr => ?_
  unfold Bis_whole
  exact (s_one (s_ret (v_and (p_blt cl_isi v_isi rfl T.isinstance bb_isinstance (pr_cons (p_var 0) (pr_cons (p_ty rfl T.int_ bb_int) pr_nil))) (v_one (v_not (p_blt cl_isi v_isi rfl T.isinstance bb_isinstance (pr_cons (p_var 0) (pr_cons (p_ty rfl T.bool_ bb_bool) pr_nil))))))))

end
end PV

set_option maxHeartbeats 4000000
namespace PV
open PySem PySem.Spec L2 PyProof.Rows
section
variable {p : Program} {w : World} {K : PySem.W.Frag} {mg : Str → Option Value} {base : Heap} {cls fna : Nat → Addr}
theorem scis_number : FnScope ["value", "least", "most"] ["value", "least", "most"] (defScope (top 12)) := ⟨rfl, rfl, rfl, by decide +kernel, rfl, by decide +kernel, by decide +kernel⟩
theorem okis_number (T : Txt K mg cls fna) (D : At K mg "is_number" (top 12) ["value", "least", "most"]) (Cis_whole : Ca p w K mg base (cx K cls fna) 1 "is_whole" 1 (Fis_whole)) : Ca p w K mg base (cx K cls fna) 2 "is_number" 3 (Fis_number) := by
  have S := @scis_number
  unfold Fis_number
  refine ca_of (N := ["value", "least", "most"]) (ps := ["value", "least", "most"]) (body := Bis_number) D S rfl rfl fun f cdv A outer s H E gd hr => ?_
  unfold Bis_number
  exact (s_one (s_ret (v_and (p_ca Cis_whole (by omega) gd hr (takes_of rfl rfl rfl rfl) rfl (pr_cons (p_val (p_take (p_var 0))) pr_nil) (len_cons len_nil)) (v_one (p_chain op_le v_cmp op_le v_cmp (p_var 1) (p_var 0) (p_var 2))))))

end
end PV

set_option maxHeartbeats 4000000
namespace PV
open PySem PySem.Spec L2 PyProof.Rows
section
variable {p : Program} {w : World} {K : PySem.W.Frag} {mg : Str → Option Value} {base : Heap} {cls fna : Nat → Addr}
theorem scwant_number : FnScope ["value", "least", "most"] ["value", "least", "most"] (defScope (top 16)) := ⟨rfl, rfl, rfl, by decide +kernel, rfl, by decide +kernel, by decide +kernel⟩
theorem okwant_number (T : Txt K mg cls fna) (D : At K mg "want_number" (top 16) ["value", "least", "most"]) (Cis_number : Ca p w K mg base (cx K cls fna) 2 "is_number" 3 (Fis_number)) (EBadNumber : ExK p w K mg base (cx K cls fna) 1 1 1 "BadNumber" ["self", "value"]) : Ca p w K mg base (cx K cls fna) 3 "want_number" 3 (Fwant_number) := by
  have S := @scwant_number
  unfold Fwant_number
  refine ca_of (N := ["value", "least", "most"]) (ps := ["value", "least", "most"]) (body := Bwant_number) D S rfl rfl fun f cdv A outer s H E gd hr => ?_
  unfold Bwant_number
  exact (s_cons (s_if (p_not (p_tst (p_ca Cis_number (by omega) gd hr (takes_of rfl rfl rfl rfl) rfl (pr_cons (p_val (p_take (p_var 0))) (pr_cons (p_val (p_take (p_var 1))) (pr_cons (p_val (p_take (p_var 2))) pr_nil))) (len_cons (len_cons (len_cons len_nil)))))) (s_one (s_raise rfl (takes_of rfl rfl rfl rfl) EBadNumber (hr.mono (by omega)) rfl (pr_cons (p_val (p_take (p_var 0))) pr_nil))) s_nil)
  (s_one (s_ret (p_var 0))))

end
end PV

set_option maxHeartbeats 4000000
namespace PV
open PySem PySem.Spec L2 PyProof.Rows
section
variable {p : Program} {w : World} {K : PySem.W.Frag} {mg : Str → Option Value} {base : Heap} {cls fna : Nat → Addr}
theorem scfrozen : FnScope ["value", "part"] ["value"] (defScope (top 15)) := ⟨rfl, rfl, rfl, by decide +kernel, rfl, by decide +kernel, by decide +kernel⟩
theorem okfrozen_at {KB : Nat} {FD : FN} (Cfrozen : Ca p w K mg base (cx K cls fna) KB "frozen" 1 FD) (hKB : 0 ≤ KB) (T : Txt K mg cls fna) (D : At K mg "frozen" (top 15) ["value"]) : Ca p w K mg base (cx K cls fna) (KB + 1) "frozen" 1 (fnF 1 (Bfrozen FD)) := by
  have S := @scfrozen
  refine ca_of (N := ["value", "part"]) (ps := ["value"]) (body := Bfrozen FD) D S rfl rfl fun f cdv A outer s H E gd hr => ?_
  unfold Bfrozen
  exact (s_cons (s_if (p_tst (p_blt cl_isi v_isi rfl T.isinstance bb_isinstance (pr_cons (p_var 0) (pr_cons (p_tup (pr_cons (p_ty rfl T.list bb_list) (pr_cons (p_ty rfl T.tuple bb_tuple) pr_nil))) pr_nil)))) (s_one (s_ret (p_bty call_tuple_of v_tuple rfl T.tuple bb_tuple (pr_cons (p_lc (own := [("part", 1)]) (by decide) rfl S.nd (i_seq rfl (p_take (p_var 0))) (blkOk_by (N := ["value", "part"]) (sc := defScope (top 15)) (own := [("part", 1)]) (by decide +kernel)) (fun _ _ _ _ _ => (g_name S.nd rfl (.inl rfl) (i := 1))) (fun _ _ _ _ _ => t_yes) (fun _ _ _ _ _ => (p_take (p_ca Cfrozen (by omega) gd hr L2.takes0 rfl (pr_cons (p_val (p_take (p_var 1))) pr_nil) (len_cons len_nil))))) pr_nil)))) s_nil)
  (s_one (s_ret (p_var 0))))
theorem okfrozen (T : Txt K mg cls fna) (D : At K mg "frozen" (top 15) ["value"]) : ∀ d, Ca p w K mg base (cx K cls fna) (0 + d) "frozen" 1 (Ffrozen d)
  | 0 => ca_bad D
  | d + 1 => okfrozen_at (okfrozen T D d) (by omega) T D

end
end PV

set_option maxHeartbeats 4000000
namespace PV
open PySem PySem.Spec L2 PyProof.Rows
section
variable {p : Program} {w : World} {K : PySem.W.Frag} {mg : Str → Option Value} {base : Heap} {cls fna : Nat → Addr}
theorem scis_row : FnScope ["value"] ["value"] (defScope (top 13)) := ⟨rfl, rfl, rfl, by decide +kernel, rfl, by decide +kernel, by decide +kernel⟩
theorem okis_row (T : Txt K mg cls fna) (D : At K mg "is_row" (top 13) ["value"]) : Ca p w K mg base (cx K cls fna) 1 "is_row" 1 (Fis_row) := by
  have S := @scis_row
  unfold Fis_row
  refine ca_of (N := ["value"]) (ps := ["value"]) (body := Bis_row) D S rfl rfl fun f cdv A outer s H E gd hr => ?_
  unfold Bis_row
  exact (s_one (s_ret (p_blt cl_isi v_isi rfl T.isinstance bb_isinstance (pr_cons (p_var 0) (pr_cons (p_tup (pr_cons (p_ty rfl T.list bb_list) (pr_cons (p_ty rfl T.tuple bb_tuple) pr_nil))) pr_nil)))))

end
end PV

set_option maxHeartbeats 4000000
namespace PV
open PySem PySem.Spec L2 PyProof.Rows
section
variable {p : Program} {w : World} {K : PySem.W.Frag} {mg : Str → Option Value} {base : Heap} {cls fna : Nat → Addr}
theorem scis_name : FnScope ["value", "sign"] ["value"] (defScope (top 14)) := ⟨rfl, rfl, rfl, by decide +kernel, rfl, by decide +kernel, by decide +kernel⟩
theorem okis_name (T : Txt K mg cls fna) (D : At K mg "is_name" (top 14) ["value"]) : Ca p w K mg base (cx K cls fna) 1 "is_name" 1 (Fis_name) := by
  have S := @scis_name
  unfold Fis_name
  refine ca_of (N := ["value", "sign"]) (ps := ["value"]) (body := Bis_name) D S rfl rfl fun f cdv A outer s H E gd hr => ?_
  unfold Bis_name
  exact (s_cons (s_if (t_w (w_or (p_not (p_tst (p_blt cl_isi v_isi rfl T.isinstance bb_isinstance (pr_cons (p_var 0) (pr_cons (p_ty rfl T.str_ bb_str) pr_nil))))) (w_or (p_not (p_tchain op_le v_cmp op_le v_cmp p_int (p_blt cl_len v_len rfl T.len bb_len (pr_cons (p_var 0) pr_nil)) (p_gintE rfl T.g_LONGEST_NAME))) (w_or1 (p_tcmp (op_notInX (hu65 hr)) v_ninX (p_ix ix_seq v_ix (p_var 0) p_int (fun _ _ => rfl)) (p_gstrE rfl T.g_LETTERS) rfl))))) (s_one (s_ret p_bl)) s_nil)
  (s_one (s_ret (p_blt (cr_all rfl) v_all rfl T.all_ bb_all (pr_cons (p_lc (own := [("sign", 1)]) (by decide) rfl S.nd (i_text (p_take (p_var 0))) (blkOk_by (N := ["value", "sign"]) (sc := defScope (top 14)) (own := [("sign", 1)]) (by decide +kernel)) (fun _ _ _ _ _ => (g_name S.nd rfl (.inl rfl) (i := 1))) (fun _ _ _ _ _ => t_yes) (fun _ _ _ _ _ => (p_take (v_or (p_cmp (op_inX (hu65 hr)) v_inX (p_var 1) (p_gstrE rfl T.g_LETTERS) rfl) (v_one (p_cmp (op_inX (hu65 hr)) v_inX (p_var 1) (p_gstrE rfl T.g_FIGURES) rfl)))))) pr_nil)))))

end
end PV

set_option maxHeartbeats 4000000
namespace PV
open PySem PySem.Spec L2 PyProof.Rows
section
variable {p : Program} {w : World} {K : PySem.W.Frag} {mg : Str → Option Value} {base : Heap} {cls fna : Nat → Addr}
theorem scis_leg : FnScope ["value", "at"] ["value"] (defScope (top 20)) := ⟨rfl, rfl, rfl, by decide +kernel, rfl, by decide +kernel, by decide +kernel⟩
theorem okis_leg (T : Txt K mg cls fna) (D : At K mg "is_leg" (top 20) ["value"]) (Cis_row : Ca p w K mg base (cx K cls fna) 1 "is_row" 1 (Fis_row)) (Cis_name : Ca p w K mg base (cx K cls fna) 1 "is_name" 1 (Fis_name)) (Cis_number : Ca p w K mg base (cx K cls fna) 2 "is_number" 3 (Fis_number)) : Ca p w K mg base (cx K cls fna) 3 "is_leg" 1 (Fis_leg) := by
  have S := @scis_leg
  unfold Fis_leg
  refine ca_of (N := ["value", "at"]) (ps := ["value"]) (body := Bis_leg) D S rfl rfl fun f cdv A outer s H E gd hr => ?_
  unfold Bis_leg
  exact (s_cons (s_if (t_w (w_or (p_not (p_tst (p_ca Cis_row (by omega) gd hr (takes_of rfl rfl rfl rfl) rfl (pr_cons (p_val (p_take (p_var 0))) pr_nil) (len_cons len_nil)))) (w_or (p_tcmp (op_neD (hu64 hr)) v_ne (p_blt cl_len v_len rfl T.len bb_len (pr_cons (p_var 0) pr_nil)) p_int rfl) (w_or1 (p_not (p_tst (p_ca Cis_name (by omega) gd hr (takes_of rfl rfl rfl rfl) rfl (pr_cons (p_ix ix_seq v_ix (p_var 0) p_int (fun _ _ => rfl)) pr_nil) (len_cons len_nil)))))))) (s_one (s_ret p_bl)) s_nil)
  (s_cons (s_for (passes_of rfl) rfl (i_seq rfl (p_take (p_tup (pr_cons p_int (pr_cons p_int pr_nil))))) (g_name S.nd rfl (.inl rfl) (i := 1)) (s_one (s_if (t_w (w_or (p_not (p_tst (p_ca Cis_number (by omega) gd hr (takes_of rfl rfl rfl rfl) rfl (pr_cons (p_ix ix_seq v_ix (p_var 0) (p_var 1) (fun _ _ => rfl)) (pr_cons p_int (pr_cons p_int pr_nil))) (len_cons (len_cons (len_cons len_nil)))))) (w_or1 (p_not (p_tst (p_ca Cis_number (by omega) gd hr (takes_of rfl rfl rfl rfl) rfl (pr_cons (p_ix ix_seq v_ix (p_var 0) (p_bin op_add4 v_add (p_var 1) p_int) (fun _ _ => rfl)) (pr_cons (p_ix ix_seq v_ix (p_var 0) (p_var 1) (fun _ _ => rfl)) (pr_cons p_int pr_nil))) (len_cons (len_cons (len_cons len_nil))))))))) (s_one (s_ret p_bl)) s_nil)))
  (s_one (s_ret p_bl))))

end
end PV

set_option maxHeartbeats 4000000
namespace PV
open PySem PySem.Spec L2 PyProof.Rows
section
variable {p : Program} {w : World} {K : PySem.W.Frag} {mg : Str → Option Value} {base : Heap} {cls fna : Nat → Addr}
theorem scwant_row : FnScope ["value", "is_item", "most", "index", "item"] ["value", "is_item", "most"] (defScope (top 17)) := ⟨rfl, rfl, rfl, by decide +kernel, rfl, by decide +kernel, by decide +kernel⟩
theorem okwant_row (T : Txt K mg cls fna) (D : At K mg "want_row" (top 17) ["value", "is_item", "most"]) (Cis_row : Ca p w K mg base (cx K cls fna) 1 "is_row" 1 (Fis_row)) (Cis_leg : Ca p w K mg base (cx K cls fna) 3 "is_leg" 1 (Fis_leg)) (Cfrozen : Ca p w K mg base (cx K cls fna) 5 "frozen" 1 (Ffrozen 5)) (EBadItem : ExK p w K mg base (cx K cls fna) 1 2 1 "BadItem" ["self", "index"]) (ETooMany : ExK p w K mg base (cx K cls fna) 1 3 1 "TooMany" ["self", "limit"]) : Ca p w K mg base (cx K cls fna) 6 "want_row" 3 (Fwant_row) := by
  have S := @scwant_row
  unfold Fwant_row
  refine ca_of (N := ["value", "is_item", "most", "index", "item"]) (ps := ["value", "is_item", "most"]) (body := Bwant_row) D S rfl rfl fun f cdv A outer s H E gd hr => ?_
  unfold Bwant_row
  exact (s_cons (s_if (p_not (p_tst (p_ca Cis_row (by omega) gd hr (takes_of rfl rfl rfl rfl) rfl (pr_cons (p_val (p_take (p_var 0))) pr_nil) (len_cons len_nil)))) (s_one (s_raise rfl (takes_of rfl rfl rfl rfl) EBadItem (hr.mono (by omega)) rfl (pr_cons p_non pr_nil))) s_nil)
  (s_cons (s_for (passes_of rfl) rfl (i_enumA rfl rfl T.enumerate (pv_cons (p_take (p_var 0)) pv_nil)) (g_tup rfl rfl (gs_cons (g_name S.nd rfl (.inl rfl) (i := 3)) (gs_cons (g_name S.nd rfl (.inl rfl) (i := 4)) gs_nil)) (ar_cons (ar_cons ar_nil))) (s_one (s_if (p_not (p_tst (p_callV (k := 3) (i := 1) (fun k0 Fn h => by
      split at h
      · rename_i hk; subst hk; cases h; exact held_of Cis_leg (by omega) T.fm_is_leg
      cases h) gd (hr.mono (by omega)) (takes_of rfl rfl rfl rfl) (pr_cons (p_val (p_take (p_var 4))) pr_nil) (len_cons len_nil)))) (s_one (s_raise rfl (takes_of rfl rfl rfl rfl) EBadItem (hr.mono (by omega)) rfl (pr_cons (p_val (p_take (p_var 3))) pr_nil))) s_nil)))
  (s_cons (s_if (p_tcmp op_gt v_cmp (p_blt cl_len v_len rfl T.len bb_len (pr_cons (p_var 0) pr_nil)) (p_var 2) rfl) (s_one (s_raise rfl (takes_of rfl rfl rfl rfl) ETooMany (hr.mono (by omega)) rfl (pr_cons (p_val (p_take (p_var 2))) pr_nil))) s_nil)
  (s_one (s_ret (p_ca Cfrozen (by omega) gd hr (takes_of rfl rfl rfl rfl) rfl (pr_cons (p_val (p_take (p_var 0))) pr_nil) (len_cons len_nil)))))))

end
end PV

set_option maxHeartbeats 4000000
namespace PV
open PySem PySem.Spec L2 PyProof.Rows
section
variable {p : Program} {w : World} {K : PySem.W.Frag} {mg : Str → Option Value} {base : Heap} {cls fna : Nat → Addr}
theorem scWalk_init : FnScope ["self", "begin", "dark", "legs", "names", "at", "name", "leg"] ["self", "begin", "dark", "legs"] (defScope (inClass (top 21) 0)) := ⟨rfl, rfl, rfl, by decide +kernel, rfl, by decide +kernel, by decide +kernel⟩
theorem okWalk_init (T : Txt K mg cls fna) (D : AtI K mg (cls 6) "Walk" "Walk.__init__" (inClass (top 21) 0) ["self", "begin", "dark", "legs"]) (Cwant_number : Ca p w K mg base (cx K cls fna) 3 "want_number" 3 (Fwant_number)) (Cwant_row : Ca p w K mg base (cx K cls fna) 6 "want_row" 3 (Fwant_row)) (ETaken : ExK p w K mg base (cx K cls fna) 1 5 1 "Taken" ["self", "value"]) : Cc p w K mg base (cx K cls fna) 7 6 "Walk" 3 (FWalk_init) := by
  have S := @scWalk_init
  unfold FWalk_init
  refine cc_of (N := ["self", "begin", "dark", "legs", "names", "at", "name", "leg"]) (ps := ["self", "begin", "dark", "legs"]) (body := BWalk_init) D S rfl rfl fun f cdv A outer s H E gd hr => ?_
  unfold BWalk_init
  exact (s_cons (s_fst (i := 0) rfl T.own_Walk.cl T.na_Walk_begin (by change (lay_k15 6).length < 1000; decide) (p_var 0) (p_take (p_ca Cwant_number (by omega) gd hr (takes_of rfl rfl rfl rfl) rfl (pr_cons (p_val (p_take (p_var 1))) (pr_cons p_int (pr_cons p_int pr_nil))) (len_cons (len_cons (len_cons len_nil))))))
  (s_cons (s_fst (i := 0) rfl T.own_Walk.cl T.na_Walk_dark (by change (lay_k15 6).length < 1000; decide) (p_var 0) (p_take (p_ca Cwant_number (by omega) gd hr (takes_of rfl rfl rfl rfl) rfl (pr_cons (p_val (p_take (p_var 2))) (pr_cons (p_val (p_take (p_var 1))) (pr_cons p_int pr_nil))) (len_cons (len_cons (len_cons len_nil))))))
  (s_cons (s_fst (i := 0) rfl T.own_Walk.cl T.na_Walk_legs (by change (lay_k15 6).length < 1000; decide) (p_var 0) (p_take (p_ca Cwant_row (by omega) gd hr (takes_of rfl rfl rfl rfl) rfl (pr_cons (p_val (p_take (p_var 3))) (pr_cons (p_val (p_take (p_fnE rfl T.fm_is_leg))) (pr_cons (p_val (p_take (p_gintE rfl T.g_MOST_POINTS))) pr_nil))) (len_cons (len_cons (len_cons len_nil))))))
  (s_cons (s_setLc (own := [("leg", 7)]) (i := 4) (by decide) rfl S.nd rfl rfl rfl (i_seq rfl (p_take (p_fld rfl T.own_Walk.cl T.na_Walk_legs (p_var 0)))) (blkOk_by (N := ["self", "begin", "dark", "legs", "names", "at", "name", "leg"]) (sc := defScope (inClass (top 21) 0)) (own := [("leg", 7)]) (by decide +kernel)) (fun _ _ _ _ _ => (g_name S.nd rfl (.inl rfl) (i := 7))) (fun _ _ _ _ _ => t_yes) (fun _ _ _ _ _ => (p_take (p_ix ix_seq v_ix (p_var 7) p_int (fun _ _ => rfl)))))
  (s_one (s_for (passes_of rfl) rfl (i_enumA rfl rfl T.enumerate (pv_cons (p_take (p_var 4)) pv_nil)) (g_tup rfl rfl (gs_cons (g_name S.nd rfl (.inl rfl) (i := 5)) (gs_cons (g_name S.nd rfl (.inl rfl) (i := 6)) gs_nil)) (ar_cons (ar_cons ar_nil))) (s_one (s_if (p_tcmp (op_inX (hu65 hr)) v_inX (p_var 6) (p_sl rfl (p_var 4) o_no (o_in (p_var 5))) rfl) (s_one (s_raise rfl (takes_of rfl rfl rfl rfl) ETaken (hr.mono (by omega)) rfl (pr_cons (p_val (p_take (p_var 6))) pr_nil))) s_nil))))))))

end
end PV

set_option maxHeartbeats 4000000
namespace PV
open PySem PySem.Spec L2 PyProof.Rows
section
variable {p : Program} {w : World} {K : PySem.W.Frag} {mg : Str → Option Value} {base : Heap} {cls fna : Nat → Addr}
theorem scWalk_eq : FnScope ["self", "other"] ["self", "other"] (defScope (inClass (top 21) 1)) := ⟨rfl, rfl, rfl, by decide +kernel, rfl, by decide +kernel, by decide +kernel⟩
theorem okWalk_eq (T : Txt K mg cls fna) (D : AtM K (cls 6) "__eq__" "Walk.__eq__" (inClass (top 21) 1) ["self", "other"]) : Cm p w K mg base (cx K cls fna) 1 6 "__eq__" 2 (FWalk_eq) := by
  have S := @scWalk_eq
  unfold FWalk_eq
  refine cm_of (N := ["self", "other"]) (ps := ["self", "other"]) (body := BWalk_eq) D S rfl rfl fun f cdv A outer s H E gd hr => ?_
  unfold BWalk_eq
  exact (s_cons (s_if (p_not (p_tst (p_blt call_isi (v_isiC T.own_Walk) rfl T.isinstance bb_isinstance (pr_cons (p_var 1) (pr_cons (p_clsE rfl T.mg_Walk) pr_nil))))) (s_one (s_ret p_bl)) s_nil)
  (s_one (s_ret (p_cmp (op_eqD (hu64 hr)) v_eq (p_tup (pr_cons (p_fld rfl T.own_Walk.cl T.na_Walk_begin (p_var 0)) (pr_cons (p_fld rfl T.own_Walk.cl T.na_Walk_dark (p_var 0)) (pr_cons (p_fld rfl T.own_Walk.cl T.na_Walk_legs (p_var 0)) pr_nil)))) (p_tup (pr_cons (p_fld rfl T.own_Walk.cl T.na_Walk_begin (p_var 1)) (pr_cons (p_fld rfl T.own_Walk.cl T.na_Walk_dark (p_var 1)) (pr_cons (p_fld rfl T.own_Walk.cl T.na_Walk_legs (p_var 1)) pr_nil)))) rfl))))

end
end PV

set_option maxHeartbeats 4000000
namespace PV
open PySem PySem.Spec L2 PyProof.Rows
section
variable {p : Program} {w : World} {K : PySem.W.Frag} {mg : Str → Option Value} {base : Heap} {cls fna : Nat → Addr}
theorem scWalk_place : FnScope ["self", "name", "names", "leg"] ["self", "name"] (defScope (inClass (top 21) 2)) := ⟨rfl, rfl, rfl, by decide +kernel, rfl, by decide +kernel, by decide +kernel⟩
theorem okWalk_place (T : Txt K mg cls fna) (D : AtM K (cls 6) "place" "Walk.place" (inClass (top 21) 2) ["self", "name"]) (EUnknown : ExK p w K mg base (cx K cls fna) 1 4 1 "Unknown" ["self", "value"]) : Cm p w K mg base (cx K cls fna) 3 6 "place" 2 (FWalk_place) := by
  have S := @scWalk_place
  unfold FWalk_place
  refine cm_of (N := ["self", "name", "names", "leg"]) (ps := ["self", "name"]) (body := BWalk_place) D S rfl rfl fun f cdv A outer s H E gd hr => ?_
  unfold BWalk_place
  exact (s_cons (s_setLc (own := [("leg", 3)]) (i := 2) (by decide) rfl S.nd rfl rfl rfl (i_seq rfl (p_take (p_fld rfl T.own_Walk.cl T.na_Walk_legs (p_var 0)))) (blkOk_by (N := ["self", "name", "names", "leg"]) (sc := defScope (inClass (top 21) 2)) (own := [("leg", 3)]) (by decide +kernel)) (fun _ _ _ _ _ => (g_name S.nd rfl (.inl rfl) (i := 3))) (fun _ _ _ _ _ => t_yes) (fun _ _ _ _ _ => (p_take (p_ix ix_seq v_ix (p_var 3) p_int (fun _ _ => rfl)))))
  (s_cons (s_if (p_tcmp (op_notInX (hu65 hr)) v_ninX (p_var 1) (p_var 2) rfl) (s_one (s_raise rfl (takes_of rfl rfl rfl rfl) EUnknown (hr.mono (by omega)) rfl (pr_cons (p_val (p_take (p_var 1))) pr_nil))) s_nil)
  (s_one (s_ret (p_pm PySem.F.plainAttrs_list PySem.F.slot_list_index PySem.F.type_list_index (mt_indexD (hu65 hr)) rfl v_index (p_var 2) (pr_cons (p_var 1) pr_nil))))))

end
end PV

set_option maxHeartbeats 4000000
namespace PV
open PySem PySem.Spec L2 PyProof.Rows
section
variable {p : Program} {w : World} {K : PySem.W.Frag} {mg : Str → Option Value} {base : Heap} {cls fna : Nat → Addr}
theorem scWalk_back : FnScope ["self", "name", "some", "leg"] ["self", "name"] (defScope (inClass (top 21) 4)) := ⟨rfl, rfl, rfl, by decide +kernel, rfl, by decide +kernel, by decide +kernel⟩
theorem okWalk_back (T : Txt K mg cls fna) (D : AtM K (cls 6) "back" "Walk.back" (inClass (top 21) 4) ["self", "name"]) (CWalk_place : Cm p w K mg base (cx K cls fna) 3 6 "place" 2 (FWalk_place)) : Cm p w K mg base (cx K cls fna) 4 6 "back" 2 (FWalk_back) := by
  have S := @scWalk_back
  unfold FWalk_back
  refine cm_of (N := ["self", "name", "some", "leg"]) (ps := ["self", "name"]) (body := BWalk_back) D S rfl rfl fun f cdv A outer s H E gd hr => ?_
  unfold BWalk_back
  exact (s_cons (s_set S.nd (i := 2) rfl (.inl rfl) (p_sl rfl (p_fld rfl T.own_Walk.cl T.na_Walk_legs (p_var 0)) o_no (o_in (p_bin op_add4 v_add (p_cm CWalk_place T.own_Walk.cl (by omega) gd hr (takes_of rfl rfl rfl rfl) (p_var 0) (pr_cons (p_val (p_take (p_var 1))) pr_nil) (by change (lay_k15 6).all _ = true; decide) (len_suc (len_cons len_nil))) p_int))))
  (s_one (s_ret (p_tup (pr_cons (p_blt (cr_sum rfl) v_sum rfl T.sum bb_sum (pr_cons (p_lc (own := [("leg", 3)]) (by decide) rfl S.nd (i_seq rfl (p_take (p_var 2))) (blkOk_by (N := ["self", "name", "some", "leg"]) (sc := defScope (inClass (top 21) 4)) (own := [("leg", 3)]) (by decide +kernel)) (fun _ _ _ _ _ => (g_name S.nd rfl (.inl rfl) (i := 3))) (fun _ _ _ _ _ => t_yes) (fun _ _ _ _ _ => (p_take (p_ix ix_seq v_ix (p_var 3) p_int (fun _ _ => rfl))))) pr_nil)) (pr_cons (p_blt (cr_sum rfl) v_sum rfl T.sum bb_sum (pr_cons (p_lc (own := [("leg", 3)]) (by decide) rfl S.nd (i_seq rfl (p_take (p_var 2))) (blkOk_by (N := ["self", "name", "some", "leg"]) (sc := defScope (inClass (top 21) 4)) (own := [("leg", 3)]) (by decide +kernel)) (fun _ _ _ _ _ => (g_name S.nd rfl (.inl rfl) (i := 3))) (fun _ _ _ _ _ => t_yes) (fun _ _ _ _ _ => (p_take (p_ix ix_seq v_ix (p_var 3) p_int (fun _ _ => rfl))))) pr_nil)) pr_nil))))))

end
end PV

set_option maxHeartbeats 4000000
namespace PV
open PySem PySem.Spec L2 PyProof.Rows
section
variable {p : Program} {w : World} {K : PySem.W.Frag} {mg : Str → Option Value} {base : Heap} {cls fna : Nat → Addr}
theorem scWalk_turn_at : FnScope ["self", "name"] ["self", "name"] (defScope (inClass (top 21) 5)) := ⟨rfl, rfl, rfl, by decide +kernel, rfl, by decide +kernel, by decide +kernel⟩
theorem okWalk_turn_at (T : Txt K mg cls fna) (D : AtM K (cls 6) "turn_at" "Walk.turn_at" (inClass (top 21) 5) ["self", "name"]) (CWalk_back : Cm p w K mg base (cx K cls fna) 4 6 "back" 2 (FWalk_back)) : Cm p w K mg base (cx K cls fna) 5 6 "turn_at" 2 (FWalk_turn_at) := by
  have S := @scWalk_turn_at
  unfold FWalk_turn_at
  refine cm_of (N := ["self", "name"]) (ps := ["self", "name"]) (body := BWalk_turn_at) D S rfl rfl fun f cdv A outer s H E gd hr => ?_
  unfold BWalk_turn_at
  exact (s_one (s_ret (p_bin op_sub v_sub (p_fld rfl T.own_Walk.cl T.na_Walk_dark (p_var 0)) (p_ix ix_seq v_ix (p_cm CWalk_back T.own_Walk.cl (by omega) gd hr (takes_of rfl rfl rfl rfl) (p_var 0) (pr_cons (p_val (p_take (p_var 1))) pr_nil) (by change (lay_k15 6).all _ = true; decide) (len_suc (len_cons len_nil))) p_int (fun _ _ => rfl)))))

end
end PV

set_option maxHeartbeats 4000000
namespace PV
open PySem PySem.Spec L2 PyProof.Rows
section
variable {p : Program} {w : World} {K : PySem.W.Frag} {mg : Str → Option Value} {base : Heap} {cls fna : Nat → Addr}
theorem scWalk_arrives : FnScope ["self", "name", "some", "leg"] ["self", "name"] (defScope (inClass (top 21) 3)) := ⟨rfl, rfl, rfl, by decide +kernel, rfl, by decide +kernel, by decide +kernel⟩
theorem okWalk_arrives (T : Txt K mg cls fna) (D : AtM K (cls 6) "arrives" "Walk.arrives" (inClass (top 21) 3) ["self", "name"]) (CWalk_place : Cm p w K mg base (cx K cls fna) 3 6 "place" 2 (FWalk_place)) : Cm p w K mg base (cx K cls fna) 4 6 "arrives" 2 (FWalk_arrives) := by
  have S := @scWalk_arrives
  unfold FWalk_arrives
  refine cm_of (N := ["self", "name", "some", "leg"]) (ps := ["self", "name"]) (body := BWalk_arrives) D S rfl rfl fun f cdv A outer s H E gd hr => ?_
  unfold BWalk_arrives
  exact (s_cons (s_set S.nd (i := 2) rfl (.inl rfl) (p_sl rfl (p_fld rfl T.own_Walk.cl T.na_Walk_legs (p_var 0)) o_no (o_in (p_bin op_add4 v_add (p_cm CWalk_place T.own_Walk.cl (by omega) gd hr (takes_of rfl rfl rfl rfl) (p_var 0) (pr_cons (p_val (p_take (p_var 1))) pr_nil) (by change (lay_k15 6).all _ = true; decide) (len_suc (len_cons len_nil))) p_int))))
  (s_one (s_ret (p_tup (pr_cons (p_val (p_take (p_bin op_add4 v_add (p_fld rfl T.own_Walk.cl T.na_Walk_begin (p_var 0)) (p_blt (cr_sum rfl) v_sum rfl T.sum bb_sum (pr_cons (p_lc (own := [("leg", 3)]) (by decide) rfl S.nd (i_seq rfl (p_take (p_var 2))) (blkOk_by (N := ["self", "name", "some", "leg"]) (sc := defScope (inClass (top 21) 3)) (own := [("leg", 3)]) (by decide +kernel)) (fun _ _ _ _ _ => (g_name S.nd rfl (.inl rfl) (i := 3))) (fun _ _ _ _ _ => t_yes) (fun _ _ _ _ _ => (p_take (p_ix ix_seq v_ix (p_var 3) p_int (fun _ _ => rfl))))) pr_nil))))) (pr_cons (p_val (p_take (p_bin op_add4 v_add (p_fld rfl T.own_Walk.cl T.na_Walk_begin (p_var 0)) (p_blt (cr_sum rfl) v_sum rfl T.sum bb_sum (pr_cons (p_lc (own := [("leg", 3)]) (by decide) rfl S.nd (i_seq rfl (p_take (p_var 2))) (blkOk_by (N := ["self", "name", "some", "leg"]) (sc := defScope (inClass (top 21) 3)) (own := [("leg", 3)]) (by decide +kernel)) (fun _ _ _ _ _ => (g_name S.nd rfl (.inl rfl) (i := 3))) (fun _ _ _ _ _ => t_yes) (fun _ _ _ _ _ => (p_take (p_ix ix_seq v_ix (p_var 3) p_int (fun _ _ => rfl))))) pr_nil))))) pr_nil))))))

end
end PV

set_option maxHeartbeats 4000000
namespace PV
open PySem PySem.Spec L2 PyProof.Rows
section
variable {p : Program} {w : World} {K : PySem.W.Frag} {mg : Str → Option Value} {base : Heap} {cls fna : Nat → Addr}
theorem scWalk_surely_back : FnScope ["self", "name"] ["self", "name"] (defScope (inClass (top 21) 6)) := ⟨rfl, rfl, rfl, by decide +kernel, rfl, by decide +kernel, by decide +kernel⟩
theorem okWalk_surely_back (T : Txt K mg cls fna) (D : AtM K (cls 6) "surely_back" "Walk.surely_back" (inClass (top 21) 6) ["self", "name"]) (CWalk_arrives : Cm p w K mg base (cx K cls fna) 4 6 "arrives" 2 (FWalk_arrives)) (CWalk_turn_at : Cm p w K mg base (cx K cls fna) 5 6 "turn_at" 2 (FWalk_turn_at)) : Cm p w K mg base (cx K cls fna) 6 6 "surely_back" 2 (FWalk_surely_back) := by
  have S := @scWalk_surely_back
  unfold FWalk_surely_back
  refine cm_of (N := ["self", "name"]) (ps := ["self", "name"]) (body := BWalk_surely_back) D S rfl rfl fun f cdv A outer s H E gd hr => ?_
  unfold BWalk_surely_back
  exact (s_one (s_ret (p_cmp op_le v_cmp (p_ix ix_seq v_ix (p_cm CWalk_arrives T.own_Walk.cl (by omega) gd hr (takes_of rfl rfl rfl rfl) (p_var 0) (pr_cons (p_val (p_take (p_var 1))) pr_nil) (by change (lay_k15 6).all _ = true; decide) (len_suc (len_cons len_nil))) p_int (fun _ _ => rfl)) (p_cm CWalk_turn_at T.own_Walk.cl (by omega) gd hr (takes_of rfl rfl rfl rfl) (p_var 0) (pr_cons (p_val (p_take (p_var 1))) pr_nil) (by change (lay_k15 6).all _ = true; decide) (len_suc (len_cons len_nil))) rfl)))

end
end PV

set_option maxHeartbeats 4000000
namespace PV
open PySem PySem.Spec L2 PyProof.Rows
section
variable {p : Program} {w : World} {K : PySem.W.Frag} {mg : Str → Option Value} {base : Heap} {cls fna : Nat → Addr}
theorem scWalk_farthest_sure : FnScope ["self", "good", "leg"] ["self"] (defScope (inClass (top 21) 8)) := ⟨rfl, rfl, rfl, by decide +kernel, rfl, by decide +kernel, by decide +kernel⟩
theorem okWalk_farthest_sure (T : Txt K mg cls fna) (D : AtM K (cls 6) "farthest_sure" "Walk.farthest_sure" (inClass (top 21) 8) ["self"]) (CWalk_surely_back : Cm p w K mg base (cx K cls fna) 6 6 "surely_back" 2 (FWalk_surely_back)) : Cm p w K mg base (cx K cls fna) 7 6 "farthest_sure" 1 (FWalk_farthest_sure) := by
  have S := @scWalk_farthest_sure
  unfold FWalk_farthest_sure
  refine cm_of (N := ["self", "good", "leg"]) (ps := ["self"]) (body := BWalk_farthest_sure) D S rfl rfl fun f cdv A outer s H E gd hr => ?_
  unfold BWalk_farthest_sure
  exact (s_cons (s_setLc (own := [("leg", 2)]) (i := 1) (by decide) rfl S.nd rfl rfl rfl (i_seq rfl (p_take (p_fld rfl T.own_Walk.cl T.na_Walk_legs (p_var 0)))) (blkOk_by (N := ["self", "good", "leg"]) (sc := defScope (inClass (top 21) 8)) (own := [("leg", 2)]) (by decide +kernel)) (fun _ _ _ _ _ => (g_name S.nd rfl (.inl rfl) (i := 2))) (fun _ _ _ _ _ => (t_one (p_tst (p_cm CWalk_surely_back T.own_Walk.cl (by omega) gd hr L2.takes0 (p_var 0) (pr_cons (p_ix ix_seq v_ix (p_var 2) p_int (fun _ _ => rfl)) pr_nil) (by change (lay_k15 6).all _ = true; decide) (len_suc (len_cons len_nil)))))) (fun _ _ _ _ _ => (p_take (p_ix ix_seq v_ix (p_var 2) p_int (fun _ _ => rfl)))))
  (s_one (s_ret (p_ifExp (p_tcmp op_gt v_cmp (p_blt cl_len v_len rfl T.len bb_len (pr_cons (p_var 1) pr_nil)) p_int rfl) (p_ix ix_seq v_ix (p_var 1) (p_un un_neg v_neg p_int) (fun _ _ => rfl)) p_non))))

end
end PV

set_option maxHeartbeats 4000000
namespace PV
open PySem PySem.Spec L2 PyProof.Rows
section
variable {p : Program} {w : World} {K : PySem.W.Frag} {mg : Str → Option Value} {base : Heap} {cls fna : Nat → Addr}
theorem sc_law_some : FnScope ["row", "values", "value"] ["row", "values"] (defScope (top 34)) := ⟨rfl, rfl, rfl, by decide +kernel, rfl, by decide +kernel, by decide +kernel⟩
theorem ok_law_some (T : Txt K mg cls fna) (D : At K mg "_law_some" (top 34) ["row", "values"]) (C_law_taken : Ca p w K mg base (cx K cls fna) 1 "_law_taken" 2 (F_law_taken)) : Ca p w K mg base (cx K cls fna) 2 "_law_some" 2 (F_law_some) := by
  have S := @sc_law_some
  unfold F_law_some
  refine ca_of (N := ["row", "values", "value"]) (ps := ["row", "values"]) (body := B_law_some) D S rfl rfl fun f cdv A outer s H E gd hr => ?_
  unfold B_law_some
  exact (s_one (s_ret (p_lc (own := [("value", 2)]) (by decide) rfl S.nd (i_seq rfl (p_take (p_var 1))) (blkOk_by (N := ["row", "values", "value"]) (sc := defScope (top 34)) (own := [("value", 2)]) (by decide +kernel)) (fun _ _ _ _ _ => (g_name S.nd rfl (.inl rfl) (i := 2))) (fun _ _ _ _ _ => (t_one (p_tcmp (op_eqD (hu64 hr)) v_eq (p_ca C_law_taken (by omega) gd hr L2.takes0 rfl (pr_cons (p_var 0) (pr_cons p_int pr_nil)) (len_cons (len_cons len_nil))) p_int rfl))) (fun _ _ _ _ _ => (p_take (p_var 2))))))

end
end PV

set_option maxHeartbeats 4000000
namespace PV
open PySem PySem.Spec L2 PyProof.Rows
section
variable {p : Program} {w : World} {K : PySem.W.Frag} {mg : Str → Option Value} {base : Heap} {cls fna : Nat → Addr}
theorem sc_law_truth : FnScope ["found", "due"] ["found", "due"] (defScope (top 30)) := ⟨rfl, rfl, rfl, by decide +kernel, rfl, by decide +kernel, by decide +kernel⟩
theorem ok_law_truth (T : Txt K mg cls fna) (D : At K mg "_law_truth" (top 30) ["found", "due"]) : Ca p w K mg base (cx K cls fna) 1 "_law_truth" 2 (F_law_truth) := by
  have S := @sc_law_truth
  unfold F_law_truth
  refine ca_of (N := ["found", "due"]) (ps := ["found", "due"]) (body := B_law_truth) D S rfl rfl fun f cdv A outer s H E gd hr => ?_
  unfold B_law_truth
  exact (s_one (s_ret (v_and (p_blt cl_isi v_isi rfl T.isinstance bb_isinstance (pr_cons (p_var 0) (pr_cons (p_ty rfl T.bool_ bb_bool) pr_nil))) (v_one (p_cmp (op_eqD (hu64 hr)) v_eq (p_var 0) (p_var 1) rfl)))))

end
end PV

set_option maxHeartbeats 4000000
namespace PV
open PySem PySem.Spec L2 PyProof.Rows
section
variable {p : Program} {w : World} {K : PySem.W.Frag} {mg : Str → Option Value} {base : Heap} {cls fna : Nat → Addr}
theorem scWalk_can_be : FnScope ["self", "seen", "here", "at", "name", "minute", "place", "some", "leg"] ["self", "seen"] (defScope (inClass (top 21) 12)) := ⟨rfl, rfl, rfl, by decide +kernel, rfl, by decide +kernel, by decide +kernel⟩
theorem okWalk_can_be (T : Txt K mg cls fna) (D : AtM K (cls 6) "can_be" "Walk.can_be" (inClass (top 21) 12) ["self", "seen"]) (CWalk_place : Cm p w K mg base (cx K cls fna) 3 6 "place" 2 (FWalk_place)) : Cm p w K mg base (cx K cls fna) 4 6 "can_be" 2 (FWalk_can_be) := by
  have S := @scWalk_can_be
  unfold FWalk_can_be
  refine cm_of (N := ["self", "seen", "here", "at", "name", "minute", "place", "some", "leg"]) (ps := ["self", "seen"]) (body := BWalk_can_be) D S rfl rfl fun f cdv A outer s H E gd hr => ?_
  unfold BWalk_can_be
  exact (s_cons (s_par rfl S.nd (i := 2) (j := 3) rfl rfl (by decide) rfl rfl (p_tup (pr_cons (p_fld rfl T.own_Walk.cl T.na_Walk_begin (p_var 0)) (pr_cons (p_fld rfl T.own_Walk.cl T.na_Walk_begin (p_var 0)) pr_nil))) p_int rfl)
  (s_cons (s_for (passes_of rfl) rfl (i_seq rfl (p_take (p_var 1))) (g_tup rfl rfl (gs_cons (g_name S.nd rfl (.inl rfl) (i := 4)) (gs_cons (g_name S.nd rfl (.inl rfl) (i := 5)) gs_nil)) (ar_cons (ar_cons ar_nil))) (s_cons (s_set S.nd (i := 6) rfl (.inl rfl) (p_cm CWalk_place T.own_Walk.cl (by omega) gd hr (takes_of rfl rfl rfl rfl) (p_var 0) (pr_cons (p_val (p_take (p_var 4))) pr_nil) (by change (lay_k15 6).all _ = true; decide) (len_suc (len_cons len_nil))))
  (s_cons (s_if (p_tcmp op_lt v_cmp (p_var 6) (p_var 3) rfl) (s_one (s_ret p_bl)) s_nil)
  (s_cons (s_set S.nd (i := 7) rfl (.inl rfl) (p_sl rfl (p_fld rfl T.own_Walk.cl T.na_Walk_legs (p_var 0)) (o_in (p_var 3)) (o_in (p_bin op_add4 v_add (p_var 6) p_int))))
  (s_cons (s_set S.nd (i := 2) rfl (.inl rfl) (p_tup (pr_cons (p_val (p_take (p_bin op_add4 v_add (p_ix ix_seq v_ix (p_var 2) p_int (fun _ _ => rfl)) (p_blt (cr_sum rfl) v_sum rfl T.sum bb_sum (pr_cons (p_lc (own := [("leg", 8)]) (by decide) rfl S.nd (i_seq rfl (p_take (p_var 7))) (blkOk_by (N := ["self", "seen", "here", "at", "name", "minute", "place", "some", "leg"]) (sc := defScope (inClass (top 21) 12)) (own := [("leg", 8)]) (by decide +kernel)) (fun _ _ _ _ _ => (g_name S.nd rfl (.inl rfl) (i := 8))) (fun _ _ _ _ _ => t_yes) (fun _ _ _ _ _ => (p_take (p_ix ix_seq v_ix (p_var 8) p_int (fun _ _ => rfl))))) pr_nil))))) (pr_cons (p_val (p_take (p_bin op_add4 v_add (p_ix ix_seq v_ix (p_var 2) p_int (fun _ _ => rfl)) (p_blt (cr_sum rfl) v_sum rfl T.sum bb_sum (pr_cons (p_lc (own := [("leg", 8)]) (by decide) rfl S.nd (i_seq rfl (p_take (p_var 7))) (blkOk_by (N := ["self", "seen", "here", "at", "name", "minute", "place", "some", "leg"]) (sc := defScope (inClass (top 21) 12)) (own := [("leg", 8)]) (by decide +kernel)) (fun _ _ _ _ _ => (g_name S.nd rfl (.inl rfl) (i := 8))) (fun _ _ _ _ _ => t_yes) (fun _ _ _ _ _ => (p_take (p_ix ix_seq v_ix (p_var 8) p_int (fun _ _ => rfl))))) pr_nil))))) pr_nil))))
  (s_cons (s_if (p_not (p_tchain op_le v_cmp op_le v_cmp (p_ix ix_seq v_ix (p_var 2) p_int (fun _ _ => rfl)) (p_var 5) (p_ix ix_seq v_ix (p_var 2) p_int (fun _ _ => rfl)))) (s_one (s_ret p_bl)) s_nil)
  (s_one (s_par rfl S.nd (i := 2) (j := 3) rfl rfl (by decide) rfl rfl (p_tup (pr_cons (p_val (p_take (p_var 5))) (pr_cons (p_val (p_take (p_var 5))) pr_nil))) (p_bin op_add4 v_add (p_var 6) p_int) rfl))))))))
  (s_one (s_ret p_bl))))

end
end PV

set_option maxHeartbeats 4000000
namespace PV
open PySem PySem.Spec L2 PyProof.Rows
section
variable {p : Program} {w : World} {K : PySem.W.Frag} {mg : Str → Option Value} {base : Heap} {cls fna : Nat → Addr}
theorem scWalk_must_turn : FnScope ["self", "seen", "name", "minute"] ["self", "seen"] (defScope (inClass (top 21) 11)) := ⟨rfl, rfl, rfl, by decide +kernel, rfl, by decide +kernel, by decide +kernel⟩
theorem okWalk_must_turn (T : Txt K mg cls fna) (D : AtM K (cls 6) "must_turn" "Walk.must_turn" (inClass (top 21) 11) ["self", "seen"]) (CWalk_turn_at : Cm p w K mg base (cx K cls fna) 5 6 "turn_at" 2 (FWalk_turn_at)) : Cm p w K mg base (cx K cls fna) 6 6 "must_turn" 2 (FWalk_must_turn) := by
  have S := @scWalk_must_turn
  unfold FWalk_must_turn
  refine cm_of (N := ["self", "seen", "name", "minute"]) (ps := ["self", "seen"]) (body := BWalk_must_turn) D S rfl rfl fun f cdv A outer s H E gd hr => ?_
  unfold BWalk_must_turn
  exact (s_cons (s_for (passes_of rfl) rfl (i_seq rfl (p_take (p_var 1))) (g_tup rfl rfl (gs_cons (g_name S.nd rfl (.inl rfl) (i := 2)) (gs_cons (g_name S.nd rfl (.inl rfl) (i := 3)) gs_nil)) (ar_cons (ar_cons ar_nil))) (s_one (s_if (p_tcmp op_ge v_cmp (p_var 3) (p_cm CWalk_turn_at T.own_Walk.cl (by omega) gd hr (takes_of rfl rfl rfl rfl) (p_var 0) (pr_cons (p_val (p_take (p_var 2))) pr_nil) (by change (lay_k15 6).all _ = true; decide) (len_suc (len_cons len_nil))) rfl) (s_one (s_ret (p_var 2))) s_nil)))
  (s_one (s_ret p_non)))

end
end PV

set_option maxHeartbeats 4000000
namespace PV
open PySem PySem.Spec L2 PyProof.Rows
section
variable {p : Program} {w : World} {K : PySem.W.Frag} {mg : Str → Option Value} {base : Heap} {cls fna : Nat → Addr}
theorem scWalk_slower : FnScope ["self", "tenths", "rows", "leg", "part"] ["self", "tenths"] (defScope (inClass (top 21) 16)) := ⟨rfl, rfl, rfl, by decide +kernel, rfl, by decide +kernel, by decide +kernel⟩
theorem okWalk_slower (T : Txt K mg cls fna) (D : AtM K (cls 6) "slower" "Walk.slower" (inClass (top 21) 16) ["self", "tenths"]) (CWalk_init : Cc p w K mg base (cx K cls fna) 7 6 "Walk" 3 (FWalk_init)) : Cm p w K mg base (cx K cls fna) 9 6 "slower" 2 (FWalk_slower) := by
  have S := @scWalk_slower
  unfold FWalk_slower
  refine cm_of (N := ["self", "tenths", "rows", "leg", "part"]) (ps := ["self", "tenths"]) (body := BWalk_slower) D S rfl rfl fun f cdv A outer s H E gd hr => ?_
  unfold BWalk_slower
  exact (s_cons (s_set S.nd (i := 2) rfl (.inl rfl) (p_lst pr_nil))
  (s_cons (s_for (passes_of rfl) rfl (i_seq rfl (p_take (p_fld rfl T.own_Walk.cl T.na_Walk_legs (p_var 0)))) (g_name S.nd rfl (.inl rfl) (i := 3)) (s_one (s_expr (p_mut PySem.F.plainAttrs_list PySem.F.slot_list_append PySem.F.type_list_append mt_append v_append (p_var 2) (pr_cons (p_val (p_take (p_bin op_add4 v_add (p_sl rfl (p_var 3) o_no (o_in p_int)) (p_bty call_tuple_of v_tuple rfl T.tuple bb_tuple (pr_cons (p_lc (own := [("part", 4)]) (by decide) rfl S.nd (i_seq rfl (p_take (p_sl rfl (p_var 3) (o_in p_int) o_no))) (blkOk_by (N := ["self", "tenths", "rows", "leg", "part"]) (sc := defScope (inClass (top 21) 16)) (own := [("part", 4)]) (by decide +kernel)) (fun _ _ _ _ _ => (g_name S.nd rfl (.inl rfl) (i := 4))) (fun _ _ _ _ _ => t_yes) (fun _ _ _ _ _ => (p_take (p_bin op_add4 v_add (p_var 4) (p_un un_neg v_neg (p_bin op_fdivW v_fdiv (p_bin op_mul3 v_mul (p_un un_neg v_neg (p_var 4)) (p_var 1)) p_int)))))) pr_nil))))) pr_nil)))))
  (s_one (s_ret (p_cc CWalk_init (by omega) gd hr (takes_of rfl rfl rfl rfl) rfl (pr_cons (p_fld rfl T.own_Walk.cl T.na_Walk_begin (p_var 0)) (pr_cons (p_fld rfl T.own_Walk.cl T.na_Walk_dark (p_var 0)) (pr_cons (p_val (p_take (p_var 2))) pr_nil))) (len_cons (len_cons (len_cons len_nil))))))))

end
end PV

set_option maxHeartbeats 4000000
namespace PV
open PySem PySem.Spec L2 PyProof.Rows
section
variable {p : Program} {w : World} {K : PySem.W.Frag} {mg : Str → Option Value} {base : Heap} {cls fna : Nat → Addr}
theorem scWalk_later : FnScope ["self", "minutes"] ["self", "minutes"] (defScope (inClass (top 21) 15)) := ⟨rfl, rfl, rfl, by decide +kernel, rfl, by decide +kernel, by decide +kernel⟩
theorem okWalk_later (T : Txt K mg cls fna) (D : AtM K (cls 6) "later" "Walk.later" (inClass (top 21) 15) ["self", "minutes"]) (CWalk_init : Cc p w K mg base (cx K cls fna) 7 6 "Walk" 3 (FWalk_init)) : Cm p w K mg base (cx K cls fna) 9 6 "later" 2 (FWalk_later) := by
  have S := @scWalk_later
  unfold FWalk_later
  refine cm_of (N := ["self", "minutes"]) (ps := ["self", "minutes"]) (body := BWalk_later) D S rfl rfl fun f cdv A outer s H E gd hr => ?_
  unfold BWalk_later
  exact (s_one (s_ret (p_cc CWalk_init (by omega) gd hr (takes_of rfl rfl rfl rfl) rfl (pr_cons (p_val (p_take (p_bin op_add4 v_add (p_fld rfl T.own_Walk.cl T.na_Walk_begin (p_var 0)) (p_var 1)))) (pr_cons (p_fld rfl T.own_Walk.cl T.na_Walk_dark (p_var 0)) (pr_cons (p_fld rfl T.own_Walk.cl T.na_Walk_legs (p_var 0)) pr_nil))) (len_cons (len_cons (len_cons len_nil))))))

end
end PV

set_option maxHeartbeats 4000000
namespace PV
open PySem PySem.Spec L2 PyProof.Rows
section
variable {p : Program} {w : World} {K : PySem.W.Frag} {mg : Str → Option Value} {base : Heap} {cls fna : Nat → Addr}
theorem sc_law_seen : FnScope ["row", "made", "told", "known", "leg", "some", "drawn", "late", "tenths", "slow", "begin", "dark", "legs", "now", "rows", "fine", "last", "low", "high", "name", "minute", "k", "part"] ["row", "made", "told", "known"] (defScope (top 36)) := ⟨rfl, rfl, rfl, by decide +kernel, rfl, by decide +kernel, by decide +kernel⟩
theorem ok_law_seen (T : Txt K mg cls fna) (D : At K mg "_law_seen" (top 36) ["row", "made", "told", "known"]) (C_law_taken : Ca p w K mg base (cx K cls fna) 1 "_law_taken" 2 (F_law_taken)) (C_law_some : Ca p w K mg base (cx K cls fna) 2 "_law_some" 2 (F_law_some)) (CWalk_can_be : Cm p w K mg base (cx K cls fna) 4 6 "can_be" 2 (FWalk_can_be)) (C_law_truth : Ca p w K mg base (cx K cls fna) 1 "_law_truth" 2 (F_law_truth)) (C_law_pick : Ca p w K mg base (cx K cls fna) 2 "_law_pick" 2 (F_law_pick)) (CWalk_turn_at : Cm p w K mg base (cx K cls fna) 5 6 "turn_at" 2 (FWalk_turn_at)) (CWalk_must_turn : Cm p w K mg base (cx K cls fna) 6 6 "must_turn" 2 (FWalk_must_turn)) (CWalk_eq : Cm p w K mg base (cx K cls fna) 1 6 "__eq__" 2 (FWalk_eq)) (CWalk_slower : Cm p w K mg base (cx K cls fna) 9 6 "slower" 2 (FWalk_slower)) (CWalk_init : Cc p w K mg base (cx K cls fna) 7 6 "Walk" 3 (FWalk_init)) (CWalk_later : Cm p w K mg base (cx K cls fna) 9 6 "later" 2 (FWalk_later)) : Ca p w K mg base (cx K cls fna) 10 "_law_seen" 4 (F_law_seen) := by
  have S := @sc_law_seen
  unfold F_law_seen
  refine ca_of (N := ["row", "made", "told", "known", "leg", "some", "drawn", "late", "tenths", "slow", "begin", "dark", "legs", "now", "rows", "fine", "last", "low", "high", "name", "minute", "k", "part"]) (ps := ["row", "made", "told", "known"]) (body := B_law_seen) D S rfl rfl fun f cdv A outer s H E gd hr => ?_
  unfold B_law_seen
  exact (s_cons (s_asg (p_take (p_var 2)) (g_tup rfl rfl (gs_cons (g_name S.nd rfl (.inl rfl) (i := 10)) (gs_cons (g_name S.nd rfl (.inl rfl) (i := 11)) (gs_cons (g_name S.nd rfl (.inl rfl) (i := 12)) gs_nil))) (ar_cons (ar_cons (ar_cons ar_nil)))))
  (s_cons (s_par rfl S.nd (i := 13) (j := 14) rfl rfl (by decide) rfl rfl (p_val (p_take (p_var 10))) (p_lst pr_nil) rfl)
  (s_cons (s_for (passes_of rfl) rfl (i_seq rfl (p_take (p_var 12))) (g_name S.nd rfl (.inl rfl) (i := 4)) (s_cons (s_set S.nd (i := 13) rfl (.inl rfl) (p_bin op_add4 v_add (p_bin op_add4 v_add (p_var 13) (p_ix ix_seq v_ix (p_var 4) p_int (fun _ _ => rfl))) (p_ca C_law_taken (by omega) gd hr (takes_of rfl rfl rfl rfl) rfl (pr_cons (p_var 0) (pr_cons (p_val (p_take (p_bin op_add4 v_add (p_bin op_sub v_sub (p_ix ix_seq v_ix (p_var 4) p_int (fun _ _ => rfl)) (p_ix ix_seq v_ix (p_var 4) p_int (fun _ _ => rfl))) p_int))) pr_nil)) (len_cons (len_cons len_nil)))))
  (s_one (s_expr (p_mut PySem.F.plainAttrs_list PySem.F.slot_list_append PySem.F.type_list_append mt_append v_append (p_var 14) (pr_cons (p_tup (pr_cons (p_ix ix_seq v_ix (p_var 4) p_int (fun _ _ => rfl)) (pr_cons (p_val (p_take (p_var 13))) pr_nil))) pr_nil))))))
  (s_cons (s_set S.nd (i := 5) rfl (.inl rfl) (p_ca C_law_some (by omega) gd hr (takes_of rfl rfl rfl rfl) rfl (pr_cons (p_var 0) (pr_cons (p_val (p_take (p_var 14))) pr_nil)) (len_cons (len_cons len_nil))))
  (s_cons (s_if (p_not (p_tst (p_ca C_law_truth (by omega) gd hr (takes_of rfl rfl rfl rfl) rfl (pr_cons (p_val (p_take (p_cm CWalk_can_be T.own_Walk.cl (by omega) gd hr (takes_of rfl rfl rfl rfl) (p_var 1) (pr_cons (p_val (p_take (p_var 5))) pr_nil) (by change (lay_k15 6).all _ = true; decide) (len_suc (len_cons len_nil))))) (pr_cons p_bl pr_nil)) (len_cons (len_cons len_nil))))) (s_one (s_ret p_bl)) s_nil)
  (s_cons (s_setLc (own := [("name", 19), ("minute", 20)]) (i := 6) (by decide) rfl S.nd rfl rfl rfl (i_seq rfl (p_take (p_var 5))) (blkOk_by (N := ["row", "made", "told", "known", "leg", "some", "drawn", "late", "tenths", "slow", "begin", "dark", "legs", "now", "rows", "fine", "last", "low", "high", "name", "minute", "k", "part"]) (sc := defScope (top 36)) (own := [("name", 19), ("minute", 20)]) (by decide +kernel)) (fun _ _ _ _ _ => (g_tup rfl rfl (gs_cons (g_name S.nd rfl (.inl rfl) (i := 19)) (gs_cons (g_name S.nd rfl (.inl rfl) (i := 20)) gs_nil)) (ar_cons (ar_cons ar_nil)))) (fun _ _ _ _ _ => t_yes) (fun _ _ _ _ _ => (p_take (p_tup (pr_cons (p_val (p_take (p_var 19))) (pr_cons (p_val (p_take (p_bin op_add4 v_add (p_var 20) (p_ca C_law_pick (by omega) gd hr L2.takes0 rfl (pr_cons (p_var 0) (pr_cons (p_val (p_take (p_lst (pr_cons p_int (pr_cons p_int (pr_cons (p_val (p_take (p_bin op_sub v_sub (p_ca C_law_taken (by omega) gd hr L2.takes0 rfl (pr_cons (p_var 0) (pr_cons p_int pr_nil)) (len_cons (len_cons len_nil))) p_int))) pr_nil)))))) pr_nil)) (len_cons (len_cons len_nil)))))) pr_nil))))))
  (s_cons (s_asg (p_take (p_tup (pr_cons p_bl (pr_cons (p_un un_neg v_neg p_int) (pr_cons (p_val (p_take (p_var 10))) (pr_cons (p_val (p_take (p_var 10))) pr_nil)))))) (g_tup rfl rfl (gs_cons (g_name S.nd rfl (.inl rfl) (i := 15)) (gs_cons (g_name S.nd rfl (.inl rfl) (i := 16)) (gs_cons (g_name S.nd rfl (.inl rfl) (i := 17)) (gs_cons (g_name S.nd rfl (.inl rfl) (i := 18)) gs_nil)))) (ar_cons (ar_cons (ar_cons (ar_cons ar_nil))))))
  (s_cons (s_for (passes_of rfl) rfl (i_seq rfl (p_take (p_var 6))) (g_tup rfl rfl (gs_cons (g_name S.nd rfl (.inl rfl) (i := 19)) (gs_cons (g_name S.nd rfl (.inl rfl) (i := 20)) gs_nil)) (ar_cons (ar_cons ar_nil))) (s_cons (s_set S.nd (i := 21) rfl (.inl rfl) (p_pm PySem.F.plainAttrs_list PySem.F.slot_list_index PySem.F.type_list_index (mt_indexD (hu65 hr)) rfl v_index (p_var 3) (pr_cons (p_var 19) pr_nil)))
  (s_cons (s_par rfl S.nd (i := 17) (j := 18) rfl rfl (by decide) rfl rfl (p_bin op_add4 v_add (p_var 17) (p_blt (cr_sum rfl) v_sum rfl T.sum bb_sum (pr_cons (p_lc (own := [("leg", 4)]) (by decide) rfl S.nd (i_seq rfl (p_take (p_sl rfl (p_var 12) (o_in (p_bin op_add4 v_add (p_var 16) p_int)) (o_in (p_bin op_add4 v_add (p_var 21) p_int))))) (blkOk_by (N := ["row", "made", "told", "known", "leg", "some", "drawn", "late", "tenths", "slow", "begin", "dark", "legs", "now", "rows", "fine", "last", "low", "high", "name", "minute", "k", "part"]) (sc := defScope (top 36)) (own := [("leg", 4)]) (by decide +kernel)) (fun _ _ _ _ _ => (g_name S.nd rfl (.inl rfl) (i := 4))) (fun _ _ _ _ _ => t_yes) (fun _ _ _ _ _ => (p_take (p_ix ix_seq v_ix (p_var 4) p_int (fun _ _ => rfl))))) pr_nil))) (p_bin op_add4 v_add (p_var 18) (p_blt (cr_sum rfl) v_sum rfl T.sum bb_sum (pr_cons (p_lc (own := [("leg", 4)]) (by decide) rfl S.nd (i_seq rfl (p_take (p_sl rfl (p_var 12) (o_in (p_bin op_add4 v_add (p_var 16) p_int)) (o_in (p_bin op_add4 v_add (p_var 21) p_int))))) (blkOk_by (N := ["row", "made", "told", "known", "leg", "some", "drawn", "late", "tenths", "slow", "begin", "dark", "legs", "now", "rows", "fine", "last", "low", "high", "name", "minute", "k", "part"]) (sc := defScope (top 36)) (own := [("leg", 4)]) (by decide +kernel)) (fun _ _ _ _ _ => (g_name S.nd rfl (.inl rfl) (i := 4))) (fun _ _ _ _ _ => t_yes) (fun _ _ _ _ _ => (p_take (p_ix ix_seq v_ix (p_var 4) p_int (fun _ _ => rfl))))) pr_nil))) rfl)
  (s_cons (s_par rfl S.nd (i := 15) (j := 16) rfl rfl (by decide) rfl rfl (v_and (p_var 15) (v_one (p_chain op_le v_cmp op_le v_cmp (p_var 17) (p_var 20) (p_var 18)))) (p_val (p_take (p_var 21))) rfl)
  (s_one (s_par rfl S.nd (i := 17) (j := 18) rfl rfl (by decide) rfl rfl (p_val (p_take (p_var 20))) (p_val (p_take (p_var 20))) rfl))))))
  (s_cons (s_setLc (own := [("name", 19), ("minute", 20)]) (i := 7) (by decide) rfl S.nd rfl rfl rfl (i_seq rfl (p_take (p_var 6))) (blkOk_by (N := ["row", "made", "told", "known", "leg", "some", "drawn", "late", "tenths", "slow", "begin", "dark", "legs", "now", "rows", "fine", "last", "low", "high", "name", "minute", "k", "part"]) (sc := defScope (top 36)) (own := [("name", 19), ("minute", 20)]) (by decide +kernel)) (fun _ _ _ _ _ => (g_tup rfl rfl (gs_cons (g_name S.nd rfl (.inl rfl) (i := 19)) (gs_cons (g_name S.nd rfl (.inl rfl) (i := 20)) gs_nil)) (ar_cons (ar_cons ar_nil)))) (fun _ _ _ _ _ => (t_one (p_tcmp op_ge v_cmp (p_var 20) (p_cm CWalk_turn_at T.own_Walk.cl (by omega) gd hr L2.takes0 (p_var 1) (pr_cons (p_val (p_take (p_var 19))) pr_nil) (by change (lay_k15 6).all _ = true; decide) (len_suc (len_cons len_nil))) rfl))) (fun _ _ _ _ _ => (p_take (p_var 19))))
  (s_cons (s_if (t_w (w_or (p_not (p_tst (p_ca C_law_truth (by omega) gd hr (takes_of rfl rfl rfl rfl) rfl (pr_cons (p_val (p_take (p_cm CWalk_can_be T.own_Walk.cl (by omega) gd hr (takes_of rfl rfl rfl rfl) (p_var 1) (pr_cons (p_val (p_take (p_var 6))) pr_nil) (by change (lay_k15 6).all _ = true; decide) (len_suc (len_cons len_nil))))) (pr_cons (p_val (p_take (p_var 15))) pr_nil)) (len_cons (len_cons len_nil))))) (w_or (p_tcmp (op_neD (hu64 hr)) v_ne (p_cm CWalk_must_turn T.own_Walk.cl (by omega) gd hr (takes_of rfl rfl rfl rfl) (p_var 1) (pr_cons (p_val (p_take (p_var 6))) pr_nil) (by change (lay_k15 6).all _ = true; decide) (len_suc (len_cons len_nil))) (p_ix ix_seq v_ix (p_bin op_add4 v_add (p_var 7) (p_lst (pr_cons p_non pr_nil))) p_int (fun _ _ => rfl)) rfl) (w_or1 (t_w (w_and (p_tcmp op_gt v_cmp (p_blt cl_len v_len rfl T.len bb_len (pr_cons (p_var 14) pr_nil)) p_int rfl) (w_and1 (p_tst (p_cm CWalk_can_be T.own_Walk.cl (by omega) gd hr (takes_of rfl rfl rfl rfl) (p_var 1) (pr_cons (p_val (p_take (p_rev rfl (p_var 14)))) pr_nil) (by change (lay_k15 6).all _ = true; decide) (len_suc (len_cons len_nil))))))))))) (s_one (s_ret p_bl)) s_nil)
  (s_cons (s_set S.nd (i := 8) rfl (.inr rfl) (p_ca C_law_taken (by omega) gd hr (takes_of rfl rfl rfl rfl) rfl (pr_cons (p_var 0) (pr_cons p_int pr_nil)) (len_cons (len_cons len_nil))))
  (s_cons (s_setLc (own := [("leg", 4)]) (i := 9) (by decide) rfl S.nd rfl rfl rfl (i_seq rfl (p_take (p_var 12))) (blkOk_by (N := ["row", "made", "told", "known", "leg", "some", "drawn", "late", "tenths", "slow", "begin", "dark", "legs", "now", "rows", "fine", "last", "low", "high", "name", "minute", "k", "part"]) (sc := defScope (top 36)) (own := [("leg", 4)]) (by decide +kernel)) (fun _ _ _ _ _ => (g_name S.nd rfl (.inl rfl) (i := 4))) (fun _ _ _ _ _ => t_yes) (fun _ _ _ _ _ => (p_take (p_bin op_add4 v_add (p_sl rfl (p_var 4) o_no (o_in p_int)) (p_bty call_tuple_of v_tuple rfl T.tuple bb_tuple (pr_cons (p_lc (own := [("part", 22)]) (by decide) rfl S.nd (i_seq rfl (p_take (p_sl rfl (p_var 4) (o_in p_int) o_no))) (by show BlkOk _ ⟨_, _, _, _, _⟩ _ _; exact blkOk_by (N := ["row", "made", "told", "known", "leg", "some", "drawn", "late", "tenths", "slow", "begin", "dark", "legs", "now", "rows", "fine", "last", "low", "high", "name", "minute", "k", "part"]) (own := [("part", 22)]) (by kernel_rfl)) (fun _ _ _ _ _ => (g_name S.nd rfl (.inl rfl) (i := 22))) (fun _ _ _ _ _ => t_yes) (fun _ _ _ _ _ => (p_take (p_bin op_add4 v_add (p_var 22) (p_bin op_fdivW v_fdiv (p_bin op_add4 v_add (p_bin op_mul3 v_mul (p_var 22) (p_var 8)) p_int) p_int))))) pr_nil))))))
  (s_one (s_ret (v_and (p_oeq CWalk_eq T.own_Walk rfl (by omega) gd hr (p_take (p_cm CWalk_slower T.own_Walk.cl (by omega) gd hr (takes_of rfl rfl rfl rfl) (p_var 1) (pr_cons (p_val (p_take (p_var 8))) pr_nil) (by change (lay_k15 6).all _ = true; decide) (len_suc (len_cons len_nil)))) (p_take (p_cc CWalk_init (by omega) gd hr (takes_of rfl rfl rfl rfl) rfl (pr_cons (p_val (p_take (p_var 10))) (pr_cons (p_val (p_take (p_var 11))) (pr_cons (p_val (p_take (p_var 9))) pr_nil))) (len_cons (len_cons (len_cons len_nil)))))) (v_one (v_or (p_cmp (op_eqD (hu64 hr)) v_eq (p_var 11) (p_var 10) rfl) (v_one (p_oeq CWalk_eq T.own_Walk rfl (by omega) gd hr (p_take (p_cm CWalk_later T.own_Walk.cl (by omega) gd hr (takes_of rfl rfl rfl rfl) (p_var 1) (pr_cons p_int pr_nil) (by change (lay_k15 6).all _ = true; decide) (len_suc (len_cons len_nil)))) (p_take (p_cc CWalk_init (by omega) gd hr (takes_of rfl rfl rfl rfl) rfl (pr_cons (p_val (p_take (p_bin op_add4 v_add (p_var 10) p_int))) (pr_cons (p_val (p_take (p_var 11))) (pr_cons (p_val (p_take (p_var 12))) pr_nil))) (len_cons (len_cons (len_cons len_nil))))))))))))))))))))))))

end
end PV

set_option maxHeartbeats 4000000
namespace PV
open PySem PySem.Spec L2 PyProof.Rows
section
variable {p : Program} {w : World} {K : PySem.W.Frag} {mg : Str → Option Value} {base : Heap} {cls fna : Nat → Addr}
theorem sc_law_strange : FnScope ["names", "name", "k"] ["names"] (defScope (top 31)) := ⟨rfl, rfl, rfl, by decide +kernel, rfl, by decide +kernel, by decide +kernel⟩
theorem ok_law_strange (T : Txt K mg cls fna) (D : At K mg "_law_strange" (top 31) ["names"]) : Ca p w K mg base (cx K cls fna) 1 "_law_strange" 1 (F_law_strange) := by
  have S := @sc_law_strange
  unfold F_law_strange
  refine ca_of (N := ["names", "name", "k"]) (ps := ["names"]) (body := B_law_strange) D S rfl rfl fun f cdv A outer s H E gd hr => ?_
  unfold B_law_strange
  exact (s_one (s_ret (p_ix ix_seq v_ix (p_lc (own := [("name", 1)]) (by decide) rfl S.nd (i_seq rfl (p_take (p_lc (own := [("k", 2)]) (by decide) rfl S.nd (i_range1 rfl T.range (pr_cons p_int pr_nil)) (blkOk_by (N := ["names", "name", "k"]) (sc := defScope (top 31)) (own := [("k", 2)]) (by decide +kernel)) (fun _ _ _ _ _ => (g_name S.nd rfl (.inl rfl) (i := 2))) (fun _ _ _ _ _ => t_yes) (fun _ _ _ _ _ => (p_take (p_bin op_add4 v_add p_str (p_bty call_str2 v_str2 rfl T.str_ bb_str (pr_cons (p_var 2) pr_nil)))))))) (blkOk_by (N := ["names", "name", "k"]) (sc := defScope (top 31)) (own := [("name", 1)]) (by decide +kernel)) (fun _ _ _ _ _ => (g_name S.nd rfl (.inl rfl) (i := 1))) (fun _ _ _ _ _ => (t_one (p_tcmp (op_notInX (hu65 hr)) v_ninX (p_var 1) (p_var 0) rfl))) (fun _ _ _ _ _ => (p_take (p_var 1)))) p_int (fun _ _ => rfl))))

end
end PV

set_option maxHeartbeats 4000000
namespace PV
open PySem PySem.Spec L2 PyProof.Rows
section
variable {p : Program} {w : World} {K : PySem.W.Frag} {mg : Str → Option Value} {base : Heap} {cls fna : Nat → Addr}
theorem scwant_minute : FnScope ["minute"] ["minute"] (defScope (top 22)) := ⟨rfl, rfl, rfl, by decide +kernel, rfl, by decide +kernel, by decide +kernel⟩
theorem okwant_minute (T : Txt K mg cls fna) (D : At K mg "want_minute" (top 22) ["minute"]) (Cis_number : Ca p w K mg base (cx K cls fna) 2 "is_number" 3 (Fis_number)) (EBadItem : ExK p w K mg base (cx K cls fna) 1 2 1 "BadItem" ["self", "index"]) : Ca p w K mg base (cx K cls fna) 3 "want_minute" 1 (Fwant_minute) := by
  have S := @scwant_minute
  unfold Fwant_minute
  refine ca_of (N := ["minute"]) (ps := ["minute"]) (body := Bwant_minute) D S rfl rfl fun f cdv A outer s H E gd hr => ?_
  unfold Bwant_minute
  exact (s_cons (s_if (p_not (p_tst (p_ca Cis_number (by omega) gd hr (takes_of rfl rfl rfl rfl) rfl (pr_cons (p_val (p_take (p_var 0))) (pr_cons p_int (pr_cons p_int pr_nil))) (len_cons (len_cons (len_cons len_nil)))))) (s_one (s_raise rfl (takes_of rfl rfl rfl rfl) EBadItem (hr.mono (by omega)) rfl (pr_cons (p_val (p_take (p_var 0))) pr_nil))) s_nil)
  (s_one (s_ret (p_var 0))))

end
end PV

set_option maxHeartbeats 4000000
namespace PV
open PySem PySem.Spec L2 PyProof.Rows
section
variable {p : Program} {w : World} {K : PySem.W.Frag} {mg : Str → Option Value} {base : Heap} {cls fna : Nat → Addr}
theorem sc_law_whole : FnScope ["value"] ["value"] (defScope (top 33)) := ⟨rfl, rfl, rfl, by decide +kernel, rfl, by decide +kernel, by decide +kernel⟩
theorem ok_law_whole (T : Txt K mg cls fna) (D : At K mg "_law_whole" (top 33) ["value"]) : Ca p w K mg base (cx K cls fna) 1 "_law_whole" 1 (F_law_whole) := by
  have S := @sc_law_whole
  unfold F_law_whole
  refine ca_of (N := ["value"]) (ps := ["value"]) (body := B_law_whole) D S rfl rfl fun f cdv A outer s H E gd hr => ?_
  unfold B_law_whole
  exact (s_one (s_ret (v_and (p_blt cl_isi v_isi rfl T.isinstance bb_isinstance (pr_cons (p_var 0) (pr_cons (p_ty rfl T.int_ bb_int) pr_nil))) (v_one (v_not (p_blt cl_isi v_isi rfl T.isinstance bb_isinstance (pr_cons (p_var 0) (pr_cons (p_ty rfl T.bool_ bb_bool) pr_nil))))))))

end
end PV

set_option maxHeartbeats 4000000
namespace PV
open PySem PySem.Spec L2 PyProof.Rows
section
variable {p : Program} {w : World} {K : PySem.W.Frag} {mg : Str → Option Value} {base : Heap} {cls fna : Nat → Addr}
theorem sc_law_refused_row : FnScope ["call", "due"] ["call", "due"] (defScope (top 32)) := ⟨rfl, rfl, rfl, by decide +kernel, rfl, by decide +kernel, by decide +kernel⟩
theorem ok_law_refused_row (T : Txt K mg cls fna) (D : At K mg "_law_refused_row" (top 32) ["call", "due"]) (C_law_whole : Ca p w K mg base (cx K cls fna) 1 "_law_whole" 1 (F_law_whole)) : Ca p w K mg base (cx K cls fna) 2 "_law_refused_row" 2 (F_law_refused_row) := by
  have S := @sc_law_refused_row
  unfold F_law_refused_row
  refine ca_of (N := ["call", "due"]) (ps := ["call", "due"]) (body := B_law_refused_row) D S rfl rfl fun f cdv A outer s H E gd hr => ?_
  unfold B_law_refused_row
  exact (s_one (s_ret (v_and (p_cmp (op_eqD (hu64 hr)) v_eq (p_var 0) (p_var 1) rfl) (v_one (p_cmp (op_eqD (hu64 hr)) v_eq (p_ca C_law_whole (by omega) gd hr (takes_of rfl rfl rfl rfl) rfl (pr_cons (p_ix ix_seq v_ix (p_var 0) p_int (fun _ _ => rfl)) pr_nil) (len_cons len_nil)) (p_ca C_law_whole (by omega) gd hr (takes_of rfl rfl rfl rfl) rfl (pr_cons (p_ix ix_seq v_ix (p_var 1) p_int (fun _ _ => rfl)) pr_nil) (len_cons len_nil)) rfl)))))

end
end PV

set_option maxHeartbeats 4000000
namespace PV
open PySem PySem.Spec L2 PyProof.Rows
section
variable {p : Program} {w : World} {K : PySem.W.Frag} {mg : Str → Option Value} {base : Heap} {cls fna : Nat → Addr}
theorem sc_law_raised : FnScope ["told", "e"] ["told"] (defScope (top 35)) := ⟨rfl, rfl, rfl, by decide +kernel, rfl, by decide +kernel, by decide +kernel⟩
theorem ok_law_raised (T : Txt K mg cls fna) (D : At K mg "_law_raised" (top 35) ["told"]) (CWalk_init : Cc p w K mg base (cx K cls fna) 7 6 "Walk" 3 (FWalk_init)) : Ca p w K mg base (cx K cls fna) 9 "_law_raised" 1 (F_law_raised) := by
  have S := @sc_law_raised
  unfold F_law_raised
  refine ca_of (N := ["told", "e"]) (ps := ["told"]) (body := B_law_raised) D S rfl rfl fun f cdv A outer s H E gd hr => ?_
  unfold B_law_raised
  exact (s_cons (s_tryM (m := 7) rfl rfl S.nd (takes_of rfl rfl rfl rfl) (fun W pn xe tk0 pw0 => (s_one (s_expr (p_cc CWalk_init (by omega) gd hr tk0 rfl (pr_cons (p_ix ix_seq v_ix (p_var 0) p_int (fun _ _ => rfl)) (pr_cons (p_ix ix_seq v_ix (p_var 0) p_int (fun _ _ => rfl)) (pr_cons (p_ix ix_seq v_ix (p_var 0) p_int (fun _ _ => rfl)) pr_nil))) (len_cons (len_cons (len_cons len_nil))))))) (.cons (i := 1) (C := 2) rfl rfl ⟨rfl, by decide, .inl T.mg_BadItem⟩ T.exm_BadItem (fun C' ps a oe d pn hm hsb hz hv => by
    have hC : C' = 2 := of_leaf_BadItem hm hsb
    subst hC
    exact (x_one (x_ret rfl (p_tup (pr_cons p_str (pr_cons (p_xf T.xf_BadItem T.no_BadItem_index hz hv (i := 1) rfl (.inl rfl) lay_BadItem_0 layne_BadItem) pr_nil)))))) (.cons (i := 1) (C := 3) rfl rfl ⟨rfl, by decide, .inl T.mg_TooMany⟩ T.exm_TooMany (fun C' ps a oe d pn hm hsb hz hv => by
    have hC : C' = 3 := of_leaf_TooMany hm hsb
    subst hC
    exact (x_one (x_ret rfl (p_tup (pr_cons p_str (pr_cons (p_xf T.xf_TooMany T.no_TooMany_limit hz hv (i := 1) rfl (.inl rfl) lay_TooMany_0 layne_TooMany) pr_nil)))))) (.cons (i := 1) (C := 5) rfl rfl ⟨rfl, by decide, .inl T.mg_Taken⟩ T.exm_Taken (fun C' ps a oe d pn hm hsb hz hv => by
    have hC : C' = 5 := of_leaf_Taken hm hsb
    subst hC
    exact (x_one (x_ret rfl (p_tup (pr_cons p_str (pr_cons (p_xf T.xf_Taken T.no_Taken_value hz hv (i := 1) rfl (.inl rfl) lay_Taken_0 layne_Taken) pr_nil)))))) (.cons (i := 1) (C := 1) rfl rfl ⟨rfl, by decide, .inl T.mg_BadNumber⟩ T.exm_BadNumber (fun C' ps a oe d pn hm hsb hz hv => by
    have hC : C' = 1 := of_leaf_BadNumber hm hsb
    subst hC
    exact (x_one (x_ret rfl (p_tup (pr_cons p_str (pr_cons (p_xf T.xf_BadNumber T.no_BadNumber_value hz hv (i := 1) rfl (.inl rfl) lay_BadNumber_0 layne_BadNumber) pr_nil)))))) .nil)))))
  (s_one (s_ret p_non)))

end
end PV

set_option maxHeartbeats 4000000
namespace PV
open PySem PySem.Spec L2 PyProof.Rows
section
variable {p : Program} {w : World} {K : PySem.W.Frag} {mg : Str → Option Value} {base : Heap} {cls fna : Nat → Addr}
theorem sc_law_refused : FnScope ["row", "made", "told", "names", "strange", "turn", "value", "bad", "number", "checks", "begin", "dark", "legs", "e", "one", "k"] ["row", "made", "told", "names"] (defScope (top 37)) := ⟨rfl, rfl, rfl, by decide +kernel, rfl, by decide +kernel, by decide +kernel⟩
theorem ok_law_refused (T : Txt K mg cls fna) (D : At K mg "_law_refused" (top 37) ["row", "made", "told", "names"]) (C_law_strange : Ca p w K mg base (cx K cls fna) 1 "_law_strange" 1 (F_law_strange)) (CWalk_place : Cm p w K mg base (cx K cls fna) 3 6 "place" 2 (FWalk_place)) (CWalk_arrives : Cm p w K mg base (cx K cls fna) 4 6 "arrives" 2 (FWalk_arrives)) (CWalk_turn_at : Cm p w K mg base (cx K cls fna) 5 6 "turn_at" 2 (FWalk_turn_at)) (CWalk_must_turn : Cm p w K mg base (cx K cls fna) 6 6 "must_turn" 2 (FWalk_must_turn)) (CWalk_can_be : Cm p w K mg base (cx K cls fna) 4 6 "can_be" 2 (FWalk_can_be)) (Cwant_minute : Ca p w K mg base (cx K cls fna) 3 "want_minute" 1 (Fwant_minute)) (C_law_pick : Ca p w K mg base (cx K cls fna) 2 "_law_pick" 2 (F_law_pick)) (C_law_raised : Ca p w K mg base (cx K cls fna) 9 "_law_raised" 1 (F_law_raised)) (C_law_refused_row : Ca p w K mg base (cx K cls fna) 2 "_law_refused_row" 2 (F_law_refused_row)) : Ca p w K mg base (cx K cls fna) 10 "_law_refused" 4 (F_law_refused) := by
  have S := @sc_law_refused
  unfold F_law_refused
  refine ca_of (N := ["row", "made", "told", "names", "strange", "turn", "value", "bad", "number", "checks", "begin", "dark", "legs", "e", "one", "k"]) (ps := ["row", "made", "told", "names"]) (body := B_law_refused) D S rfl rfl fun f cdv A outer s H E gd hr => ?_
  unfold B_law_refused
  exact (s_cons (s_asg (p_take (p_var 2)) (g_tup rfl rfl (gs_cons (g_name S.nd rfl (.inl rfl) (i := 10)) (gs_cons (g_name S.nd rfl (.inl rfl) (i := 11)) (gs_cons (g_name S.nd rfl (.inl rfl) (i := 12)) gs_nil))) (ar_cons (ar_cons (ar_cons ar_nil)))))
  (s_cons (s_set S.nd (i := 4) rfl (.inl rfl) (p_ca C_law_strange (by omega) gd hr (takes_of rfl rfl rfl rfl) rfl (pr_cons (p_val (p_take (p_var 3))) pr_nil) (len_cons len_nil)))
  (s_cons (s_for (passes_of rfl) rfl (i_range1 rfl T.range (pr_cons p_int pr_nil)) (g_name S.nd rfl (.inl rfl) (i := 5)) (s_one (s_tryAs rfl rfl S.nd (i := 13) (C := 4) (m := 7) rfl rfl ⟨rfl, by decide, .inl T.mg_Unknown⟩ (takes_of rfl rfl rfl rfl) T.exm_Unknown (fun W pn xe tk0 pw0 => (s_cons (s_if (p_tcmp (op_eqD (hu64 hr)) v_eq (p_var 5) p_int rfl) (s_one (s_expr (p_cm CWalk_place T.own_Walk.cl (by omega) gd hr tk0 (p_var 1) (pr_cons (p_val (p_take (p_var 4))) pr_nil) (by change (lay_k15 6).all _ = true; decide) (len_suc (len_cons len_nil))))) (s_one (s_if (p_tcmp (op_eqD (hu64 hr)) v_eq (p_var 5) p_int rfl) (s_one (s_expr (p_cm CWalk_arrives T.own_Walk.cl (by omega) gd hr tk0 (p_var 1) (pr_cons (p_val (p_take (p_var 4))) pr_nil) (by change (lay_k15 6).all _ = true; decide) (len_suc (len_cons len_nil))))) (s_one (s_if (p_tcmp (op_eqD (hu64 hr)) v_eq (p_var 5) p_int rfl) (s_one (s_expr (p_cm CWalk_turn_at T.own_Walk.cl (by omega) gd hr tk0 (p_var 1) (pr_cons (p_val (p_take (p_var 4))) pr_nil) (by change (lay_k15 6).all _ = true; decide) (len_suc (len_cons len_nil))))) (s_one (s_if (p_tcmp (op_eqD (hu64 hr)) v_eq (p_var 5) p_int rfl) (s_one (s_expr (p_cm CWalk_must_turn T.own_Walk.cl (by omega) gd hr tk0 (p_var 1) (pr_cons (p_val (p_take (p_lst (pr_cons (p_tup (pr_cons (p_val (p_take (p_var 4))) (pr_cons p_int pr_nil))) pr_nil)))) pr_nil) (by change (lay_k15 6).all _ = true; decide) (len_suc (len_cons len_nil))))) (s_one (s_expr (p_cm CWalk_can_be T.own_Walk.cl (by omega) gd hr tk0 (p_var 1) (pr_cons (p_val (p_take (p_lst (pr_cons (p_tup (pr_cons (p_val (p_take (p_var 4))) (pr_cons p_int pr_nil))) pr_nil)))) pr_nil) (by change (lay_k15 6).all _ = true; decide) (len_suc (len_cons len_nil))))))))))))
  (s_one (s_ret p_bl)))) (fun C' ps a oe d pn hm hsb hz hv => by
    have hC : C' = 4 := of_leaf_Unknown hm hsb
    subst hC
    exact (x_one (x_if rfl (p_tcmp (op_neD (by have z := hu64 hr; exact z)) v_ne (p_xf T.xf_Unknown T.no_Unknown_value hz hv (i := 13) rfl (.inl rfl) lay_Unknown_0 layne_Unknown) (p_var 4) rfl) (s_one (s_ret p_bl)) s_nil))))))
  (s_cons (s_for (passes_of rfl) rfl (i_seq rfl (p_take (p_lst (pr_cons (p_un un_neg v_neg p_int) (pr_cons p_int (pr_cons p_bl (pr_cons p_non pr_nil))))))) (g_name S.nd rfl (.inl rfl) (i := 6)) (s_one (s_tryAs rfl rfl S.nd (i := 13) (C := 2) (m := 7) rfl rfl ⟨rfl, by decide, .inl T.mg_BadItem⟩ (takes_of rfl rfl rfl rfl) T.exm_BadItem (fun W pn xe tk0 pw0 => (s_cons (s_expr (p_ca Cwant_minute (by omega) gd hr tk0 rfl (pr_cons (p_val (p_take (p_var 6))) pr_nil) (len_cons len_nil)))
  (s_one (s_ret p_bl)))) (fun C' ps a oe d pn hm hsb hz hv => by
    have hC : C' = 2 := of_leaf_BadItem hm hsb
    subst hC
    exact (x_one (x_if rfl (p_tcmp (op_neD (by have z := hu64 hr; exact z)) v_ne (p_blt (call_reprD gd (by have z := hu65 hr; exact z)) v_repr rfl T.repr bb_repr (pr_cons (p_xf T.xf_BadItem T.no_BadItem_index hz hv (i := 13) rfl (.inl rfl) lay_BadItem_0 layne_BadItem) pr_nil)) (p_blt (call_reprD gd (by have z := hu65 hr; exact z)) v_repr rfl T.repr bb_repr (pr_cons (p_var 6) pr_nil)) rfl) (s_one (s_ret p_bl)) s_nil))))))
  (s_cons (s_set S.nd (i := 7) rfl (.inl rfl) (p_ca C_law_pick (by omega) gd hr (takes_of rfl rfl rfl rfl) rfl (pr_cons (p_var 0) (pr_cons (p_val (p_take (p_lst (pr_cons (p_tup (pr_cons p_str (pr_cons p_int (pr_cons p_int (pr_cons p_int (pr_cons p_int pr_nil)))))) (pr_cons (p_tup (pr_cons p_str (pr_cons p_int (pr_cons p_int (pr_cons p_int (pr_cons p_int pr_nil)))))) (pr_cons (p_tup (pr_cons p_str (pr_cons p_int (pr_cons p_int (pr_cons p_int (pr_cons p_int pr_nil)))))) (pr_cons (p_tup (pr_cons p_str (pr_cons p_int (pr_cons p_int (pr_cons p_int (pr_cons p_int pr_nil)))))) (pr_cons (p_tup (pr_cons p_str (pr_cons p_int (pr_cons p_int (pr_cons p_int (pr_cons p_int pr_nil)))))) (pr_cons (p_tup (pr_cons p_str (pr_cons p_int (pr_cons p_int (pr_cons p_int pr_nil))))) (pr_cons p_non pr_nil)))))))))) pr_nil)) (len_cons (len_cons len_nil))))
  (s_cons (s_set S.nd (i := 8) rfl (.inl rfl) (p_ca C_law_pick (by omega) gd hr (takes_of rfl rfl rfl rfl) rfl (pr_cons (p_var 0) (pr_cons (p_val (p_take (p_lst (pr_cons (p_un un_neg v_neg p_int) (pr_cons p_int (pr_cons p_bl (pr_cons p_non pr_nil))))))) pr_nil)) (len_cons (len_cons len_nil))))
  (s_cons (s_set S.nd (i := 9) rfl (.inl rfl) (p_lst (pr_cons (p_tup (pr_cons (p_tup (pr_cons (p_val (p_take (p_var 8))) (pr_cons p_int (pr_cons (p_tup pr_nil) pr_nil)))) (pr_cons (p_tup (pr_cons p_str (pr_cons (p_val (p_take (p_var 8))) pr_nil))) pr_nil))) (pr_cons (p_tup (pr_cons (p_tup (pr_cons p_int (pr_cons (p_val (p_take (p_var 8))) (pr_cons (p_tup pr_nil) pr_nil)))) (pr_cons (p_tup (pr_cons p_str (pr_cons (p_val (p_take (p_var 8))) pr_nil))) pr_nil))) (pr_cons (p_tup (pr_cons (p_tup (pr_cons p_int (pr_cons p_int (pr_cons (p_tup pr_nil) pr_nil)))) (pr_cons (p_tup (pr_cons p_str (pr_cons p_int pr_nil))) pr_nil))) (pr_cons (p_tup (pr_cons (p_tup (pr_cons (p_val (p_take (p_var 10))) (pr_cons (p_val (p_take (p_var 11))) (pr_cons (p_val (p_take (p_bin op_add4 v_add (p_var 12) (p_tup (pr_cons (p_val (p_take (p_var 7))) pr_nil))))) pr_nil)))) (pr_cons (p_tup (pr_cons p_str (pr_cons (p_blt cl_len v_len rfl T.len bb_len (pr_cons (p_var 12) pr_nil)) pr_nil))) pr_nil))) pr_nil))))))
  (s_cons (s_set S.nd (i := 9) rfl (.inl rfl) (p_bin op_add4 v_add (p_var 9) (p_lst (pr_cons (p_tup (pr_cons (p_tup (pr_cons (p_val (p_take (p_var 10))) (pr_cons (p_val (p_take (p_var 11))) (pr_cons p_non pr_nil)))) (pr_cons (p_tup (pr_cons p_str (pr_cons p_non pr_nil))) pr_nil))) (pr_cons (p_tup (pr_cons (p_tup (pr_cons (p_val (p_take (p_var 10))) (pr_cons (p_val (p_take (p_var 11))) (pr_cons (p_val (p_take (p_lc (own := [("k", 15)]) (by decide) rfl S.nd (i_range1 rfl T.range (pr_cons p_int pr_nil)) (blkOk_by (N := ["row", "made", "told", "names", "strange", "turn", "value", "bad", "number", "checks", "begin", "dark", "legs", "e", "one", "k"]) (sc := defScope (top 37)) (own := [("k", 15)]) (by decide +kernel)) (fun _ _ _ _ _ => (g_name S.nd rfl (.inl rfl) (i := 15))) (fun _ _ _ _ _ => t_yes) (fun _ _ _ _ _ => (p_take (p_tup (pr_cons (p_val (p_take (p_bin op_add4 v_add p_str (p_bty call_str2 v_str2 rfl T.str_ bb_str (pr_cons (p_var 15) pr_nil))))) (pr_cons p_int (pr_cons p_int (pr_cons p_int (pr_cons p_int pr_nil))))))))))) pr_nil)))) (pr_cons (p_tup (pr_cons p_str (pr_cons p_int pr_nil))) pr_nil))) pr_nil)))))
  (s_cons (s_set S.nd (i := 9) rfl (.inl rfl) (p_bin op_add4 v_add (p_var 9) (p_lst (pr_cons (p_tup (pr_cons (p_tup (pr_cons (p_val (p_take (p_var 10))) (pr_cons (p_val (p_take (p_var 11))) (pr_cons (p_val (p_take (p_bin op_mul3 v_mul (p_tup (pr_cons (p_tup (pr_cons p_str (pr_cons p_int (pr_cons p_int (pr_cons p_int (pr_cons p_int pr_nil)))))) pr_nil)) p_int))) pr_nil)))) (pr_cons (p_tup (pr_cons p_str (pr_cons p_str pr_nil))) pr_nil))) pr_nil))))
  (s_one (s_ret (v_and (p_cmp (op_eqD (hu64 hr)) v_eq (p_lc (own := [("one", 14)]) (by decide) rfl S.nd (i_seq rfl (p_take (p_var 9))) (blkOk_by (N := ["row", "made", "told", "names", "strange", "turn", "value", "bad", "number", "checks", "begin", "dark", "legs", "e", "one", "k"]) (sc := defScope (top 37)) (own := [("one", 14)]) (by decide +kernel)) (fun _ _ _ _ _ => (g_name S.nd rfl (.inl rfl) (i := 14))) (fun _ _ _ _ _ => (t_one (p_not (p_tst (p_ca C_law_refused_row (by omega) gd hr L2.takes0 rfl (pr_cons (p_val (p_take (p_ca C_law_raised (by omega) gd hr L2.takes0 rfl (pr_cons (p_ix ix_seq v_ix (p_var 14) p_int (fun _ _ => rfl)) pr_nil) (len_cons len_nil)))) (pr_cons (p_ix ix_seq v_ix (p_var 14) p_int (fun _ _ => rfl)) pr_nil)) (len_cons (len_cons len_nil))))))) (fun _ _ _ _ _ => (p_take (p_var 14)))) (p_lst pr_nil) rfl) (v_one (p_cmp (op_eqD (hu64 hr)) v_eq (p_ca Cwant_minute (by omega) gd hr (takes_of rfl rfl rfl rfl) rfl (pr_cons p_int pr_nil) (len_cons len_nil)) p_int rfl))))))))))))))

end
end PV

set_option maxHeartbeats 4000000
namespace PV
open PySem PySem.Spec L2 PyProof.Rows
section
variable {p : Program} {w : World} {K : PySem.W.Frag} {mg : Str → Option Value} {base : Heap} {cls fna : Nat → Addr}
theorem sc_law_mixed : FnScope ["row", "value"] ["row", "value"] (defScope (top 27)) := ⟨rfl, rfl, rfl, by decide +kernel, rfl, by decide +kernel, by decide +kernel⟩
theorem ok_law_mixed (T : Txt K mg cls fna) (D : At K mg "_law_mixed" (top 27) ["row", "value"]) (C_law_taken : Ca p w K mg base (cx K cls fna) 1 "_law_taken" 2 (F_law_taken)) : Ca p w K mg base (cx K cls fna) 2 "_law_mixed" 2 (F_law_mixed) := by
  have S := @sc_law_mixed
  unfold F_law_mixed
  refine ca_of (N := ["row", "value"]) (ps := ["row", "value"]) (body := B_law_mixed) D S rfl rfl fun f cdv A outer s H E gd hr => ?_
  unfold B_law_mixed
  exact (s_cons (s_if (p_tcmp (op_eqD (hu64 hr)) v_eq (p_ca C_law_taken (by omega) gd hr (takes_of rfl rfl rfl rfl) rfl (pr_cons (p_var 0) (pr_cons p_int pr_nil)) (len_cons (len_cons len_nil))) p_int rfl) (s_one (s_ret (p_bty call_list_of v_list rfl T.list bb_list (pr_cons (p_var 1) pr_nil)))) s_nil)
  (s_one (s_ret (p_bty call_tuple_of v_tuple rfl T.tuple bb_tuple (pr_cons (p_var 1) pr_nil)))))

end
end PV

set_option maxHeartbeats 4000000
namespace PV
open PySem PySem.Spec L2 PyProof.Rows
section
variable {p : Program} {w : World} {K : PySem.W.Frag} {mg : Str → Option Value} {base : Heap} {cls fna : Nat → Addr}
theorem sc_law_alike : FnScope ["found", "due", "k"] ["found", "due"] (defScope (top 26)) := ⟨rfl, rfl, rfl, by decide +kernel, rfl, by decide +kernel, by decide +kernel⟩
theorem ok_law_alike_at {KB : Nat} {FD : FN} (C_law_alike : Ca p w K mg base (cx K cls fna) KB "_law_alike" 2 FD) (hKB : 0 ≤ KB) (T : Txt K mg cls fna) (D : At K mg "_law_alike" (top 26) ["found", "due"]) : Ca p w K mg base (cx K cls fna) (KB + 1) "_law_alike" 2 (fnF 1 (B_law_alike FD)) := by
  have S := @sc_law_alike
  refine ca_of (N := ["found", "due", "k"]) (ps := ["found", "due"]) (body := B_law_alike FD) D S rfl rfl fun f cdv A outer s H E gd hr => ?_
  unfold B_law_alike
  exact (s_cons (s_if (p_tst (p_blt cl_isi v_isi rfl T.isinstance bb_isinstance (pr_cons (p_var 1) (pr_cons (p_tup (pr_cons (p_ty rfl T.tuple bb_tuple) (pr_cons (p_ty rfl T.list bb_list) pr_nil))) pr_nil)))) (s_cons (s_if (t_w (w_or (p_not (p_tst (p_blt cl_isi v_isi rfl T.isinstance bb_isinstance (pr_cons (p_var 0) (pr_cons (p_tup (pr_cons (p_ty rfl T.tuple bb_tuple) (pr_cons (p_ty rfl T.list bb_list) pr_nil))) pr_nil))))) (w_or1 (p_tcmp (op_neD (hu64 hr)) v_ne (p_blt cl_isi v_isi rfl T.isinstance bb_isinstance (pr_cons (p_var 0) (pr_cons (p_ty rfl T.list bb_list) pr_nil))) (p_blt cl_isi v_isi rfl T.isinstance bb_isinstance (pr_cons (p_var 1) (pr_cons (p_ty rfl T.list bb_list) pr_nil))) rfl)))) (s_one (s_ret p_bl)) s_nil)
  (s_cons (s_if (p_tcmp (op_neD (hu64 hr)) v_ne (p_blt cl_len v_len rfl T.len bb_len (pr_cons (p_var 0) pr_nil)) (p_blt cl_len v_len rfl T.len bb_len (pr_cons (p_var 1) pr_nil)) rfl) (s_one (s_ret p_bl)) s_nil)
  (s_one (s_ret (p_cmp (op_eqD (hu64 hr)) v_eq (p_lc (own := [("k", 2)]) (by decide) rfl S.nd (i_range1 rfl T.range (pr_cons (p_blt cl_len v_len rfl T.len bb_len (pr_cons (p_var 1) pr_nil)) pr_nil)) (blkOk_by (N := ["found", "due", "k"]) (sc := defScope (top 26)) (own := [("k", 2)]) (by decide +kernel)) (fun _ _ _ _ _ => (g_name S.nd rfl (.inl rfl) (i := 2))) (fun _ _ _ _ _ => (t_one (p_not (p_tst (p_ca C_law_alike (by omega) gd hr L2.takes0 rfl (pr_cons (p_ix ix_seq v_ix (p_var 0) (p_var 2) (fun _ _ => rfl)) (pr_cons (p_ix ix_seq v_ix (p_var 1) (p_var 2) (fun _ _ => rfl)) pr_nil)) (len_cons (len_cons len_nil))))))) (fun _ _ _ _ _ => (p_take (p_var 2)))) (p_lst pr_nil) rfl))))) s_nil)
  (s_cons (s_if (t_w (w_or (p_tcmp op_isN v_isN (p_var 1) p_non rfl) (w_or1 (p_tst (p_blt cl_isi v_isi rfl T.isinstance bb_isinstance (pr_cons (p_var 1) (pr_cons (p_ty rfl T.str_ bb_str) pr_nil))))))) (s_one (s_ret (v_and (p_cmp (op_eqD (hu64 hr)) v_eq (p_var 0) (p_var 1) rfl) (v_one (p_cmp (op_eqD (hu64 hr)) v_eq (p_blt cl_isi v_isi rfl T.isinstance bb_isinstance (pr_cons (p_var 0) (pr_cons (p_ty rfl T.str_ bb_str) pr_nil))) (p_blt cl_isi v_isi rfl T.isinstance bb_isinstance (pr_cons (p_var 1) (pr_cons (p_ty rfl T.str_ bb_str) pr_nil))) rfl))))) s_nil)
  (s_one (s_ret (v_and (p_blt cl_isi v_isi rfl T.isinstance bb_isinstance (pr_cons (p_var 0) (pr_cons (p_ty rfl T.int_ bb_int) pr_nil))) (v_and (p_cmp (op_eqD (hu64 hr)) v_eq (p_blt cl_isi v_isi rfl T.isinstance bb_isinstance (pr_cons (p_var 0) (pr_cons (p_ty rfl T.bool_ bb_bool) pr_nil))) (p_blt cl_isi v_isi rfl T.isinstance bb_isinstance (pr_cons (p_var 1) (pr_cons (p_ty rfl T.bool_ bb_bool) pr_nil))) rfl) (v_one (p_cmp (op_eqD (hu64 hr)) v_eq (p_var 0) (p_var 1) rfl))))))))
theorem ok_law_alike (T : Txt K mg cls fna) (D : At K mg "_law_alike" (top 26) ["found", "due"]) : ∀ d, Ca p w K mg base (cx K cls fna) (0 + d) "_law_alike" 2 (F_law_alike d)
  | 0 => ca_bad D
  | d + 1 => ok_law_alike_at (ok_law_alike T D d) (by omega) T D

end
end PV

set_option maxHeartbeats 4000000
namespace PV
open PySem PySem.Spec L2 PyProof.Rows
section
variable {p : Program} {w : World} {K : PySem.W.Frag} {mg : Str → Option Value} {base : Heap} {cls fna : Nat → Addr}
theorem scWalk_next_bounds : FnScope ["self", "name", "minute", "at"] ["self", "name", "minute"] (defScope (inClass (top 21) 13)) := ⟨rfl, rfl, rfl, by decide +kernel, rfl, by decide +kernel, by decide +kernel⟩
theorem okWalk_next_bounds (T : Txt K mg cls fna) (D : AtM K (cls 6) "next_bounds" "Walk.next_bounds" (inClass (top 21) 13) ["self", "name", "minute"]) (CWalk_place : Cm p w K mg base (cx K cls fna) 3 6 "place" 2 (FWalk_place)) : Cm p w K mg base (cx K cls fna) 4 6 "next_bounds" 3 (FWalk_next_bounds) := by
  have S := @scWalk_next_bounds
  unfold FWalk_next_bounds
  refine cm_of (N := ["self", "name", "minute", "at"]) (ps := ["self", "name", "minute"]) (body := BWalk_next_bounds) D S rfl rfl fun f cdv A outer s H E gd hr => ?_
  unfold BWalk_next_bounds
  exact (s_cons (s_set S.nd (i := 3) rfl (.inl rfl) (p_bin op_add4 v_add (p_cm CWalk_place T.own_Walk.cl (by omega) gd hr (takes_of rfl rfl rfl rfl) (p_var 0) (pr_cons (p_val (p_take (p_var 1))) pr_nil) (by change (lay_k15 6).all _ = true; decide) (len_suc (len_cons len_nil))) p_int))
  (s_one (s_ret (p_ifExp (p_tcmp op_lt v_cmp (p_var 3) (p_blt cl_len v_len rfl T.len bb_len (pr_cons (p_fld rfl T.own_Walk.cl T.na_Walk_legs (p_var 0)) pr_nil)) rfl) (p_tup (pr_cons (p_val (p_take (p_bin op_add4 v_add (p_var 2) (p_ix ix_seq v_ix (p_ix ix_seq v_ix (p_fld rfl T.own_Walk.cl T.na_Walk_legs (p_var 0)) (p_var 3) (fun _ _ => rfl)) p_int (fun _ _ => rfl))))) (pr_cons (p_val (p_take (p_bin op_add4 v_add (p_var 2) (p_ix ix_seq v_ix (p_ix ix_seq v_ix (p_fld rfl T.own_Walk.cl T.na_Walk_legs (p_var 0)) (p_var 3) (fun _ _ => rfl)) p_int (fun _ _ => rfl))))) pr_nil))) p_non))))

end
end PV

set_option maxHeartbeats 4000000
namespace PV
open PySem PySem.Spec L2 PyProof.Rows
section
variable {p : Program} {w : World} {K : PySem.W.Frag} {mg : Str → Option Value} {base : Heap} {cls fna : Nat → Addr}
theorem scWalk_may_be_back : FnScope ["self", "name"] ["self", "name"] (defScope (inClass (top 21) 7)) := ⟨rfl, rfl, rfl, by decide +kernel, rfl, by decide +kernel, by decide +kernel⟩
theorem okWalk_may_be_back (T : Txt K mg cls fna) (D : AtM K (cls 6) "may_be_back" "Walk.may_be_back" (inClass (top 21) 7) ["self", "name"]) (CWalk_arrives : Cm p w K mg base (cx K cls fna) 4 6 "arrives" 2 (FWalk_arrives)) (CWalk_back : Cm p w K mg base (cx K cls fna) 4 6 "back" 2 (FWalk_back)) : Cm p w K mg base (cx K cls fna) 5 6 "may_be_back" 2 (FWalk_may_be_back) := by
  have S := @scWalk_may_be_back
  unfold FWalk_may_be_back
  refine cm_of (N := ["self", "name"]) (ps := ["self", "name"]) (body := BWalk_may_be_back) D S rfl rfl fun f cdv A outer s H E gd hr => ?_
  unfold BWalk_may_be_back
  exact (s_one (s_ret (p_cmp op_le v_cmp (p_bin op_add4 v_add (p_ix ix_seq v_ix (p_cm CWalk_arrives T.own_Walk.cl (by omega) gd hr (takes_of rfl rfl rfl rfl) (p_var 0) (pr_cons (p_val (p_take (p_var 1))) pr_nil) (by change (lay_k15 6).all _ = true; decide) (len_suc (len_cons len_nil))) p_int (fun _ _ => rfl)) (p_ix ix_seq v_ix (p_cm CWalk_back T.own_Walk.cl (by omega) gd hr (takes_of rfl rfl rfl rfl) (p_var 0) (pr_cons (p_val (p_take (p_var 1))) pr_nil) (by change (lay_k15 6).all _ = true; decide) (len_suc (len_cons len_nil))) p_int (fun _ _ => rfl))) (p_fld rfl T.own_Walk.cl T.na_Walk_dark (p_var 0)) rfl)))

end
end PV

set_option maxHeartbeats 4000000
namespace PV
open PySem PySem.Spec L2 PyProof.Rows
section
variable {p : Program} {w : World} {K : PySem.W.Frag} {mg : Str → Option Value} {base : Heap} {cls fna : Nat → Addr}
theorem scWalk_rest_at : FnScope ["self", "name"] ["self", "name"] (defScope (inClass (top 21) 10)) := ⟨rfl, rfl, rfl, by decide +kernel, rfl, by decide +kernel, by decide +kernel⟩
theorem okWalk_rest_at (T : Txt K mg cls fna) (D : AtM K (cls 6) "rest_at" "Walk.rest_at" (inClass (top 21) 10) ["self", "name"]) (CWalk_turn_at : Cm p w K mg base (cx K cls fna) 5 6 "turn_at" 2 (FWalk_turn_at)) (CWalk_arrives : Cm p w K mg base (cx K cls fna) 4 6 "arrives" 2 (FWalk_arrives)) : Cm p w K mg base (cx K cls fna) 6 6 "rest_at" 2 (FWalk_rest_at) := by
  have S := @scWalk_rest_at
  unfold FWalk_rest_at
  refine cm_of (N := ["self", "name"]) (ps := ["self", "name"]) (body := BWalk_rest_at) D S rfl rfl fun f cdv A outer s H E gd hr => ?_
  unfold BWalk_rest_at
  exact (s_one (s_ret (p_bin op_sub v_sub (p_cm CWalk_turn_at T.own_Walk.cl (by omega) gd hr (takes_of rfl rfl rfl rfl) (p_var 0) (pr_cons (p_val (p_take (p_var 1))) pr_nil) (by change (lay_k15 6).all _ = true; decide) (len_suc (len_cons len_nil))) (p_ix ix_seq v_ix (p_cm CWalk_arrives T.own_Walk.cl (by omega) gd hr (takes_of rfl rfl rfl rfl) (p_var 0) (pr_cons (p_val (p_take (p_var 1))) pr_nil) (by change (lay_k15 6).all _ = true; decide) (len_suc (len_cons len_nil))) p_int (fun _ _ => rfl)))))

end
end PV

set_option maxHeartbeats 4000000
namespace PV
open PySem PySem.Spec L2 PyProof.Rows
section
variable {p : Program} {w : World} {K : PySem.W.Frag} {mg : Str → Option Value} {base : Heap} {cls fna : Nat → Addr}
theorem scWalk_latest_begin : FnScope ["self", "name"] ["self", "name"] (defScope (inClass (top 21) 14)) := ⟨rfl, rfl, rfl, by decide +kernel, rfl, by decide +kernel, by decide +kernel⟩
theorem okWalk_latest_begin (T : Txt K mg cls fna) (D : AtM K (cls 6) "latest_begin" "Walk.latest_begin" (inClass (top 21) 14) ["self", "name"]) (CWalk_rest_at : Cm p w K mg base (cx K cls fna) 6 6 "rest_at" 2 (FWalk_rest_at)) : Cm p w K mg base (cx K cls fna) 7 6 "latest_begin" 2 (FWalk_latest_begin) := by
  have S := @scWalk_latest_begin
  unfold FWalk_latest_begin
  refine cm_of (N := ["self", "name"]) (ps := ["self", "name"]) (body := BWalk_latest_begin) D S rfl rfl fun f cdv A outer s H E gd hr => ?_
  unfold BWalk_latest_begin
  exact (s_one (s_ret (p_bin op_add4 v_add (p_fld rfl T.own_Walk.cl T.na_Walk_begin (p_var 0)) (p_cm CWalk_rest_at T.own_Walk.cl (by omega) gd hr (takes_of rfl rfl rfl rfl) (p_var 0) (pr_cons (p_val (p_take (p_var 1))) pr_nil) (by change (lay_k15 6).all _ = true; decide) (len_suc (len_cons len_nil))))))

end
end PV

set_option maxHeartbeats 4000000
namespace PV
open PySem PySem.Spec L2 PyProof.Rows
section
variable {p : Program} {w : World} {K : PySem.W.Frag} {mg : Str → Option Value} {base : Heap} {cls fna : Nat → Addr}
theorem scWalk_go_on : FnScope ["self", "name", "minute", "at"] ["self", "name", "minute"] (defScope (inClass (top 21) 9)) := ⟨rfl, rfl, rfl, by decide +kernel, rfl, by decide +kernel, by decide +kernel⟩
theorem okWalk_go_on (T : Txt K mg cls fna) (D : AtM K (cls 6) "go_on" "Walk.go_on" (inClass (top 21) 9) ["self", "name", "minute"]) (CWalk_place : Cm p w K mg base (cx K cls fna) 3 6 "place" 2 (FWalk_place)) (CWalk_turn_at : Cm p w K mg base (cx K cls fna) 5 6 "turn_at" 2 (FWalk_turn_at)) : Cm p w K mg base (cx K cls fna) 6 6 "go_on" 3 (FWalk_go_on) := by
  have S := @scWalk_go_on
  unfold FWalk_go_on
  refine cm_of (N := ["self", "name", "minute", "at"]) (ps := ["self", "name", "minute"]) (body := BWalk_go_on) D S rfl rfl fun f cdv A outer s H E gd hr => ?_
  unfold BWalk_go_on
  exact (s_cons (s_set S.nd (i := 3) rfl (.inl rfl) (p_bin op_add4 v_add (p_cm CWalk_place T.own_Walk.cl (by omega) gd hr (takes_of rfl rfl rfl rfl) (p_var 0) (pr_cons (p_val (p_take (p_var 1))) pr_nil) (by change (lay_k15 6).all _ = true; decide) (len_suc (len_cons len_nil))) p_int))
  (s_cons (s_if (p_tcmp op_ge v_cmp (p_var 3) (p_blt cl_len v_len rfl T.len bb_len (pr_cons (p_fld rfl T.own_Walk.cl T.na_Walk_legs (p_var 0)) pr_nil)) rfl) (s_one (s_ret p_bl)) s_nil)
  (s_one (s_ret (p_cmp op_le v_cmp (p_bin op_add4 v_add (p_var 2) (p_ix ix_seq v_ix (p_ix ix_seq v_ix (p_fld rfl T.own_Walk.cl T.na_Walk_legs (p_var 0)) (p_var 3) (fun _ _ => rfl)) p_int (fun _ _ => rfl))) (p_cm CWalk_turn_at T.own_Walk.cl (by omega) gd hr (takes_of rfl rfl rfl rfl) (p_var 0) (pr_cons (p_ix ix_seq v_ix (p_ix ix_seq v_ix (p_fld rfl T.own_Walk.cl T.na_Walk_legs (p_var 0)) (p_var 3) (fun _ _ => rfl)) p_int (fun _ _ => rfl)) pr_nil) (by change (lay_k15 6).all _ = true; decide) (len_suc (len_cons len_nil))) rfl)))))

end
end PV

set_option maxHeartbeats 4000000
namespace PV
open PySem PySem.Spec L2 PyProof.Rows
section
variable {p : Program} {w : World} {K : PySem.W.Frag} {mg : Str → Option Value} {base : Heap} {cls fna : Nat → Addr}
theorem sclaw : FnScope ["script", "row", "name", "sums", "k", "sure", "names", "legs", "begin", "dark", "made", "known", "minute", "leg", "out", "home", "back", "arrives", "turn", "bounds", "goes", "column"] ["script"] (defScope (top 38)) := ⟨rfl, rfl, rfl, by decide +kernel, rfl, by decide +kernel, by decide +kernel⟩
theorem oklaw (T : Txt K mg cls fna) {f : Addr} {fd : FuncData} (D : Fun K "law" "law" (top 38) f fd) (C_law_taken : Ca p w K mg base (cx K cls fna) 1 "_law_taken" 2 (F_law_taken)) (C_law_names : Ca p w K mg base (cx K cls fna) 4 "_law_names" 2 (F_law_names)) (C_law_mixed : Ca p w K mg base (cx K cls fna) 2 "_law_mixed" 2 (F_law_mixed)) (CWalk_init : Cc p w K mg base (cx K cls fna) 7 6 "Walk" 3 (FWalk_init)) (C_law_alike : Ca p w K mg base (cx K cls fna) 5 "_law_alike" 2 (F_law_alike 5)) (CWalk_eq : Cm p w K mg base (cx K cls fna) 1 6 "__eq__" 2 (FWalk_eq)) (CWalk_farthest_sure : Cm p w K mg base (cx K cls fna) 7 6 "farthest_sure" 1 (FWalk_farthest_sure)) (CWalk_place : Cm p w K mg base (cx K cls fna) 3 6 "place" 2 (FWalk_place)) (CWalk_arrives : Cm p w K mg base (cx K cls fna) 4 6 "arrives" 2 (FWalk_arrives)) (CWalk_back : Cm p w K mg base (cx K cls fna) 4 6 "back" 2 (FWalk_back)) (CWalk_turn_at : Cm p w K mg base (cx K cls fna) 5 6 "turn_at" 2 (FWalk_turn_at)) (CWalk_surely_back : Cm p w K mg base (cx K cls fna) 6 6 "surely_back" 2 (FWalk_surely_back)) (C_law_truth : Ca p w K mg base (cx K cls fna) 1 "_law_truth" 2 (F_law_truth)) (CWalk_may_be_back : Cm p w K mg base (cx K cls fna) 5 6 "may_be_back" 2 (FWalk_may_be_back)) (CWalk_rest_at : Cm p w K mg base (cx K cls fna) 6 6 "rest_at" 2 (FWalk_rest_at)) (CWalk_latest_begin : Cm p w K mg base (cx K cls fna) 7 6 "latest_begin" 2 (FWalk_latest_begin)) (CWalk_next_bounds : Cm p w K mg base (cx K cls fna) 4 6 "next_bounds" 3 (FWalk_next_bounds)) (CWalk_go_on : Cm p w K mg base (cx K cls fna) 6 6 "go_on" 3 (FWalk_go_on)) (C_law_seen : Ca p w K mg base (cx K cls fna) 10 "_law_seen" 4 (F_law_seen)) (C_law_refused : Ca p w K mg base (cx K cls fna) 10 "_law_refused" 4 (F_law_refused)) : FnG p w K mg base 11 f fd ["script"] (spF (cx K cls fna) 1 Flaw) := by
  have S := @sclaw
  unfold Flaw
  refine fnG_by (N := ["script", "row", "name", "sums", "k", "sure", "names", "legs", "begin", "dark", "made", "known", "minute", "leg", "out", "home", "back", "arrives", "turn", "bounds", "goes", "column"]) (ps := ["script"]) (body := Blaw) D S rfl rfl fun cdv A outer s H E gd hr => ?_
  unfold Blaw Slaw1 Slaw2 Slaw3 Slaw4 Slaw5 Slaw6 Slaw7 Slaw8 Slaw9 Slaw10 Slaw11 Slaw12
  exact (s_cons (s_set S.nd (i := 1) rfl (.inr rfl) (p_lst (pr_cons (p_val (p_take (p_var 0))) (pr_cons p_int (pr_cons p_int (pr_cons p_int pr_nil))))))
  (s_cons (s_par3C rfl S.nd (i := 6) (j := 7) (l := 8) rfl rfl rfl (by decide) (by decide) (by decide) (.inl rfl) (.inr rfl) (.inr rfl) (pr_cons (p_val (p_take (p_ca C_law_names (by omega) gd hr (takes_of rfl rfl rfl rfl) rfl (pr_cons (p_var 1) (pr_cons p_int pr_nil)) (len_cons (len_cons len_nil))))) (pr_cons (p_lst pr_nil) (pr_cons (p_val (p_take (p_ca C_law_taken (by omega) gd hr (takes_of rfl rfl rfl rfl) rfl (pr_cons (p_var 1) (pr_cons p_int pr_nil)) (len_cons (len_cons len_nil))))) pr_nil))))
  (s_cons (s_for (passes_of rfl) rfl (i_seq rfl (p_take (p_sl rfl (p_var 6) o_no (o_in (p_ca C_law_taken (by omega) gd hr (takes_of rfl rfl rfl rfl) rfl (pr_cons (p_var 1) (pr_cons p_int pr_nil)) (len_cons (len_cons len_nil))))))) (g_name S.nd rfl (.inl rfl) (i := 2)) (s_cons (s_par rfl S.nd (i := 14) (j := 16) rfl rfl (by decide) rfl rfl (p_bin op_add4 v_add p_int (p_ca C_law_taken (by omega) gd hr (takes_of rfl rfl rfl rfl) rfl (pr_cons (p_var 1) (pr_cons p_int pr_nil)) (len_cons (len_cons len_nil)))) (p_bin op_add4 v_add p_int (p_ca C_law_taken (by omega) gd hr (takes_of rfl rfl rfl rfl) rfl (pr_cons (p_var 1) (pr_cons p_int pr_nil)) (len_cons (len_cons len_nil)))) rfl)
  (s_one (s_expr (p_mut PySem.F.plainAttrs_list PySem.F.slot_list_append PySem.F.type_list_append mt_append v_append (p_var 7) (pr_cons (p_tup (pr_cons (p_val (p_take (p_var 2))) (pr_cons (p_val (p_take (p_var 14))) (pr_cons (p_val (p_take (p_bin op_add4 v_add (p_var 14) (p_ca C_law_taken (by omega) gd hr (takes_of rfl rfl rfl rfl) rfl (pr_cons (p_var 1) (pr_cons p_int pr_nil)) (len_cons (len_cons len_nil)))))) (pr_cons (p_val (p_take (p_var 16))) (pr_cons (p_val (p_take (p_bin op_add4 v_add (p_var 16) (p_ca C_law_taken (by omega) gd hr (takes_of rfl rfl rfl rfl) rfl (pr_cons (p_var 1) (pr_cons p_int pr_nil)) (len_cons (len_cons len_nil)))))) pr_nil)))))) pr_nil))))))
  (s_cons (s_parC rfl S.nd (i := 7) (j := 9) rfl rfl (by decide) (.inr rfl) (.inr rfl) (p_bty call_tuple_of v_tuple rfl T.tuple bb_tuple (pr_cons (p_var 7) pr_nil)) (p_bin op_add4 v_add (p_var 8) (p_ca C_law_taken (by omega) gd hr (takes_of rfl rfl rfl rfl) rfl (pr_cons (p_var 1) (pr_cons p_int pr_nil)) (len_cons (len_cons len_nil)))))
  (s_cons (s_asg (p_take (p_tup (pr_cons (p_val (p_take (p_cc CWalk_init (by omega) gd hr (takes_of rfl rfl rfl rfl) rfl (pr_cons (p_val (p_take (p_var 8))) (pr_cons (p_val (p_take (p_var 9))) (pr_cons (p_val (p_take (p_ca C_law_mixed (by omega) gd hr (takes_of rfl rfl rfl rfl) rfl (pr_cons (p_var 1) (pr_cons (p_val (p_take (p_lc (own := [("leg", 13)]) (by decide) rfl S.nd (i_seq rfl (p_take (p_var 7))) (blkOk_by (N := ["script", "row", "name", "sums", "k", "sure", "names", "legs", "begin", "dark", "made", "known", "minute", "leg", "out", "home", "back", "arrives", "turn", "bounds", "goes", "column"]) (sc := defScope (top 38)) (own := [("leg", 13)]) (by decide +kernel)) (fun _ _ _ _ _ => (g_name S.nd rfl (.inl rfl) (i := 13))) (fun _ _ _ _ _ => t_yes) (fun _ _ _ _ _ => (p_take (p_ca C_law_mixed (by omega) gd hr L2.takes0 rfl (pr_cons (p_var 1) (pr_cons (p_val (p_take (p_var 13))) pr_nil)) (len_cons (len_cons len_nil)))))))) pr_nil)) (len_cons (len_cons len_nil))))) pr_nil))) (len_cons (len_cons (len_cons len_nil)))))) (pr_cons (p_val (p_take (p_lc (own := [("leg", 13)]) (by decide) rfl S.nd (i_seq rfl (p_take (p_var 7))) (blkOk_by (N := ["script", "row", "name", "sums", "k", "sure", "names", "legs", "begin", "dark", "made", "known", "minute", "leg", "out", "home", "back", "arrives", "turn", "bounds", "goes", "column"]) (sc := defScope (top 38)) (own := [("leg", 13)]) (by decide +kernel)) (fun _ _ _ _ _ => (g_name S.nd rfl (.inl rfl) (i := 13))) (fun _ _ _ _ _ => t_yes) (fun _ _ _ _ _ => (p_take (p_ix ix_seq v_ix (p_var 13) p_int (fun _ _ => rfl))))))) pr_nil)))) (g_tup rfl rfl (gs_cons (g_name S.nd rfl (.inl rfl) (i := 10)) (gs_cons (g_name S.nd rfl (.inr rfl) (i := 11)) gs_nil)) (ar_cons (ar_cons ar_nil))))
  (s_cons (s_if (t_w (w_or (p_not (p_tst (p_ca C_law_alike (by omega) gd hr (takes_of rfl rfl rfl rfl) rfl (pr_cons (p_tup (pr_cons (p_fld rfl T.own_Walk.cl T.na_Walk_begin (p_var 10)) (pr_cons (p_fld rfl T.own_Walk.cl T.na_Walk_dark (p_var 10)) (pr_cons (p_fld rfl T.own_Walk.cl T.na_Walk_legs (p_var 10)) pr_nil)))) (pr_cons (p_tup (pr_cons (p_val (p_take (p_var 8))) (pr_cons (p_val (p_take (p_var 9))) (pr_cons (p_val (p_take (p_var 7))) pr_nil)))) pr_nil)) (len_cons (len_cons len_nil))))) (w_or (p_tone CWalk_eq T.own_Walk T.ne_Walk rfl (by omega) gd hr (p_take (p_var 10)) (p_take (p_cc CWalk_init (by omega) gd hr (takes_of rfl rfl rfl rfl) rfl (pr_cons (p_val (p_take (p_var 8))) (pr_cons (p_val (p_take (p_var 9))) (pr_cons (p_val (p_take (p_var 7))) pr_nil))) (len_cons (len_cons (len_cons len_nil)))))) (w_or (p_toeq CWalk_eq T.own_Walk rfl (by omega) gd hr (p_take (p_var 10)) (p_take (p_var 7))) (w_or1 (p_toeq CWalk_eq T.own_Walk rfl (by omega) gd hr (p_take (p_var 10)) (p_take (p_cc CWalk_init (by omega) gd hr (takes_of rfl rfl rfl rfl) rfl (pr_cons (p_val (p_take (p_var 8))) (pr_cons (p_val (p_take (p_bin op_add4 v_add (p_var 9) p_int))) (pr_cons (p_val (p_take (p_var 7))) pr_nil))) (len_cons (len_cons (len_cons len_nil))))))))))) (s_one (s_ret p_bl)) s_nil)
  (s_cons (s_set S.nd (i := 3) rfl (.inr rfl) (p_lst pr_nil))
  (s_cons (s_for (passes_of rfl) rfl (i_range1 rfl T.range (pr_cons (p_blt cl_len v_len rfl T.len bb_len (pr_cons (p_var 7) pr_nil)) pr_nil)) (g_name S.nd rfl (.inr rfl) (i := 4)) (s_one (s_expr (p_mut PySem.F.plainAttrs_list PySem.F.slot_list_append PySem.F.type_list_append mt_append v_append (p_var 3) (pr_cons (p_val (p_take (p_lc (own := [("column", 21)]) (by decide) rfl S.nd (i_seq rfl (p_take (p_tup (pr_cons p_int (pr_cons p_int (pr_cons p_int (pr_cons p_int pr_nil))))))) (blkOk_by (N := ["script", "row", "name", "sums", "k", "sure", "names", "legs", "begin", "dark", "made", "known", "minute", "leg", "out", "home", "back", "arrives", "turn", "bounds", "goes", "column"]) (sc := defScope (top 38)) (own := [("column", 21)]) (by decide +kernel)) (fun _ _ _ _ _ => (g_name S.nd rfl (.inr rfl) (i := 21))) (fun _ _ _ _ _ => t_yes) (fun _ _ _ _ _ => (p_take (p_blt (cr_sum rfl) v_sum rfl T.sum bb_sum (pr_cons (p_lc (own := [("leg", 13)]) (by decide) rfl S.nd (i_seq rfl (p_take (p_sl rfl (p_var 7) o_no (o_in (p_bin op_add4 v_add (p_var 4) p_int))))) (by show BlkOk _ ⟨_, _, _, _, _⟩ _ _; exact blkOk_by (N := ["script", "row", "name", "sums", "k", "sure", "names", "legs", "begin", "dark", "made", "known", "minute", "leg", "out", "home", "back", "arrives", "turn", "bounds", "goes", "column"]) (own := [("leg", 13)]) (by kernel_rfl)) (fun _ _ _ _ _ => (g_name S.nd rfl (.inl rfl) (i := 13))) (fun _ _ _ _ _ => t_yes) (fun _ _ _ _ _ => (p_take (p_ix ix_seq v_ix (p_var 13) (p_var 21) (fun _ _ => rfl))))) pr_nil))))))) pr_nil)))))
  (s_cons (s_setLc (own := [("k", 4)]) (i := 5) (by decide) rfl S.nd rfl rfl rfl (i_range1 rfl T.range (pr_cons (p_blt cl_len v_len rfl T.len bb_len (pr_cons (p_var 7) pr_nil)) pr_nil)) (blkOk_by (N := ["script", "row", "name", "sums", "k", "sure", "names", "legs", "begin", "dark", "made", "known", "minute", "leg", "out", "home", "back", "arrives", "turn", "bounds", "goes", "column"]) (sc := defScope (top 38)) (own := [("k", 4)]) (by decide +kernel)) (fun _ _ _ _ _ => (g_name S.nd rfl (.inl rfl) (i := 4))) (fun _ _ _ _ _ => (t_one (p_tcmp op_le v_cmp (p_bin op_add4 v_add (p_bin op_add4 v_add (p_var 8) (p_ix ix_seq v_ix (p_ix ix_seq v_ix (p_var 3) (p_var 4) (fun _ _ => rfl)) p_int (fun _ _ => rfl))) (p_ix ix_seq v_ix (p_ix ix_seq v_ix (p_var 3) (p_var 4) (fun _ _ => rfl)) p_int (fun _ _ => rfl))) (p_var 9) rfl))) (fun _ _ _ _ _ => (p_take (p_ix ix_seq v_ix (p_var 11) (p_var 4) (fun _ _ => rfl)))))
  (s_cons (s_if (p_tcmp (op_neD (hu64 hr)) v_ne (p_cm0 CWalk_farthest_sure T.own_Walk.cl (by omega) gd hr (takes_of rfl rfl rfl rfl) (p_var 10) (by change (lay_k15 6).all _ = true; decide)) (p_ix ix_seq v_ix (p_bin op_add4 v_add (p_lst (pr_cons p_non pr_nil)) (p_var 5)) (p_un un_neg v_neg p_int) (fun _ _ => rfl)) rfl) (s_one (s_ret p_bl)) s_nil)
  (s_cons (s_for (passes_of rfl) rfl (i_enumA rfl rfl T.enumerate (pv_cons (p_take (p_var 11)) pv_nil)) (g_tup rfl rfl (gs_cons (g_name S.nd rfl (.inr rfl) (i := 4)) (gs_cons (g_name S.nd rfl (.inl rfl) (i := 2)) gs_nil)) (ar_cons (ar_cons ar_nil))) (s_cons (s_par3 rfl S.nd (i := 17) (j := 16) (l := 18) rfl rfl rfl (by decide) (by decide) (by decide) rfl rfl rfl (pr_cons (p_tup (pr_cons (p_val (p_take (p_bin op_add4 v_add (p_var 8) (p_ix ix_seq v_ix (p_ix ix_seq v_ix (p_var 3) (p_var 4) (fun _ _ => rfl)) p_int (fun _ _ => rfl))))) (pr_cons (p_val (p_take (p_bin op_add4 v_add (p_var 8) (p_ix ix_seq v_ix (p_ix ix_seq v_ix (p_var 3) (p_var 4) (fun _ _ => rfl)) p_int (fun _ _ => rfl))))) pr_nil))) (pr_cons (p_tup (pr_cons (p_ix ix_seq v_ix (p_ix ix_seq v_ix (p_var 3) (p_var 4) (fun _ _ => rfl)) p_int (fun _ _ => rfl)) (pr_cons (p_ix ix_seq v_ix (p_ix ix_seq v_ix (p_var 3) (p_var 4) (fun _ _ => rfl)) p_int (fun _ _ => rfl)) pr_nil))) (pr_cons (p_bin op_sub v_sub (p_var 9) (p_ix ix_seq v_ix (p_ix ix_seq v_ix (p_var 3) (p_var 4) (fun _ _ => rfl)) p_int (fun _ _ => rfl))) pr_nil))) rfl)
  (s_cons (s_if (p_not (p_tst (p_ca C_law_alike (by omega) gd hr (takes_of rfl rfl rfl rfl) rfl (pr_cons (p_tup (pr_cons (p_val (p_take (p_cm CWalk_place T.own_Walk.cl (by omega) gd hr (takes_of rfl rfl rfl rfl) (p_var 10) (pr_cons (p_val (p_take (p_var 2))) pr_nil) (by change (lay_k15 6).all _ = true; decide) (len_suc (len_cons len_nil))))) (pr_cons (p_val (p_take (p_cm CWalk_arrives T.own_Walk.cl (by omega) gd hr (takes_of rfl rfl rfl rfl) (p_var 10) (pr_cons (p_val (p_take (p_var 2))) pr_nil) (by change (lay_k15 6).all _ = true; decide) (len_suc (len_cons len_nil))))) (pr_cons (p_val (p_take (p_cm CWalk_back T.own_Walk.cl (by omega) gd hr (takes_of rfl rfl rfl rfl) (p_var 10) (pr_cons (p_val (p_take (p_var 2))) pr_nil) (by change (lay_k15 6).all _ = true; decide) (len_suc (len_cons len_nil))))) (pr_cons (p_val (p_take (p_cm CWalk_turn_at T.own_Walk.cl (by omega) gd hr (takes_of rfl rfl rfl rfl) (p_var 10) (pr_cons (p_val (p_take (p_var 2))) pr_nil) (by change (lay_k15 6).all _ = true; decide) (len_suc (len_cons len_nil))))) pr_nil))))) (pr_cons (p_tup (pr_cons (p_val (p_take (p_var 4))) (pr_cons (p_val (p_take (p_var 17))) (pr_cons (p_val (p_take (p_var 16))) (pr_cons (p_val (p_take (p_var 18))) pr_nil))))) pr_nil)) (len_cons (len_cons len_nil))))) (s_one (s_ret p_bl)) s_nil)
  (s_cons (s_if (t_w (w_or (p_not (p_tst (p_ca C_law_truth (by omega) gd hr (takes_of rfl rfl rfl rfl) rfl (pr_cons (p_val (p_take (p_cm CWalk_surely_back T.own_Walk.cl (by omega) gd hr (takes_of rfl rfl rfl rfl) (p_var 10) (pr_cons (p_val (p_take (p_var 2))) pr_nil) (by change (lay_k15 6).all _ = true; decide) (len_suc (len_cons len_nil))))) (pr_cons (p_cmp (op_inX (hu65 hr)) v_inX (p_var 2) (p_var 5) rfl) pr_nil)) (len_cons (len_cons len_nil))))) (w_or1 (p_not (p_tst (p_ca C_law_truth (by omega) gd hr (takes_of rfl rfl rfl rfl) rfl (pr_cons (p_val (p_take (p_cm CWalk_may_be_back T.own_Walk.cl (by omega) gd hr (takes_of rfl rfl rfl rfl) (p_var 10) (pr_cons (p_val (p_take (p_var 2))) pr_nil) (by change (lay_k15 6).all _ = true; decide) (len_suc (len_cons len_nil))))) (pr_cons (p_cmp op_le v_cmp (p_bin op_add4 v_add (p_ix ix_seq v_ix (p_var 17) p_int (fun _ _ => rfl)) (p_ix ix_seq v_ix (p_var 16) p_int (fun _ _ => rfl))) (p_var 9) rfl) pr_nil)) (len_cons (len_cons len_nil)))))))) (s_one (s_ret p_bl)) s_nil)
  (s_cons (s_if (p_not (p_tst (p_ca C_law_alike (by omega) gd hr (takes_of rfl rfl rfl rfl) rfl (pr_cons (p_tup (pr_cons (p_val (p_take (p_cm CWalk_rest_at T.own_Walk.cl (by omega) gd hr (takes_of rfl rfl rfl rfl) (p_var 10) (pr_cons (p_val (p_take (p_var 2))) pr_nil) (by change (lay_k15 6).all _ = true; decide) (len_suc (len_cons len_nil))))) (pr_cons (p_val (p_take (p_cm CWalk_latest_begin T.own_Walk.cl (by omega) gd hr (takes_of rfl rfl rfl rfl) (p_var 10) (pr_cons (p_val (p_take (p_var 2))) pr_nil) (by change (lay_k15 6).all _ = true; decide) (len_suc (len_cons len_nil))))) pr_nil))) (pr_cons (p_tup (pr_cons (p_val (p_take (p_bin op_sub v_sub (p_var 18) (p_ix ix_seq v_ix (p_var 17) p_int (fun _ _ => rfl))))) (pr_cons (p_val (p_take (p_bin op_sub v_sub (p_bin op_add4 v_add (p_var 8) (p_var 18)) (p_ix ix_seq v_ix (p_var 17) p_int (fun _ _ => rfl))))) pr_nil))) pr_nil)) (len_cons (len_cons len_nil))))) (s_one (s_ret p_bl)) s_nil)
  (s_cons (s_set S.nd (i := 12) rfl (.inl rfl) (p_bin op_add4 v_add (p_var 8) (p_ca C_law_taken (by omega) gd hr (takes_of rfl rfl rfl rfl) rfl (pr_cons (p_var 1) (pr_cons p_int pr_nil)) (len_cons (len_cons len_nil)))))
  (s_cons (s_asg (p_take (p_tup (pr_cons p_non (pr_cons p_bl pr_nil)))) (g_tup rfl rfl (gs_cons (g_name S.nd rfl (.inl rfl) (i := 19)) (gs_cons (g_name S.nd rfl (.inl rfl) (i := 20)) gs_nil)) (ar_cons (ar_cons ar_nil))))
  (s_cons (s_for (passes_of rfl) rfl (i_seq rfl (p_take (p_sl rfl (p_var 7) (o_in (p_bin op_add4 v_add (p_var 4) p_int)) (o_in (p_bin op_add4 v_add (p_var 4) p_int))))) (g_name S.nd rfl (.inl rfl) (i := 13)) (s_cons (s_set S.nd (i := 19) rfl (.inl rfl) (p_tup (pr_cons (p_val (p_take (p_bin op_add4 v_add (p_var 12) (p_ix ix_seq v_ix (p_var 13) p_int (fun _ _ => rfl))))) (pr_cons (p_val (p_take (p_bin op_add4 v_add (p_var 12) (p_ix ix_seq v_ix (p_var 13) p_int (fun _ _ => rfl))))) pr_nil))))
  (s_one (s_set S.nd (i := 20) rfl (.inl rfl) (p_cmp op_le v_cmp (p_bin op_add4 v_add (p_var 12) (p_ix ix_seq v_ix (p_var 13) p_int (fun _ _ => rfl))) (p_bin op_sub v_sub (p_var 9) (p_ix ix_seq v_ix (p_ix ix_seq v_ix (p_var 3) (p_bin op_add4 v_add (p_var 4) p_int) (fun _ _ => rfl)) p_int (fun _ _ => rfl))) rfl)))))
  (s_cons (s_if (t_w (w_or (p_tcmp (op_neD (hu64 hr)) v_ne (p_cm CWalk_next_bounds T.own_Walk.cl (by omega) gd hr (takes_of rfl rfl rfl rfl) (p_var 10) (pr_cons (p_val (p_take (p_var 2))) (pr_cons (p_val (p_take (p_var 12))) pr_nil)) (by change (lay_k15 6).all _ = true; decide) (len_suc (len_cons (len_cons len_nil)))) (p_var 19) rfl) (w_or1 (p_not (p_tst (p_ca C_law_truth (by omega) gd hr (takes_of rfl rfl rfl rfl) rfl (pr_cons (p_val (p_take (p_cm CWalk_go_on T.own_Walk.cl (by omega) gd hr (takes_of rfl rfl rfl rfl) (p_var 10) (pr_cons (p_val (p_take (p_var 2))) (pr_cons (p_val (p_take (p_var 12))) pr_nil)) (by change (lay_k15 6).all _ = true; decide) (len_suc (len_cons (len_cons len_nil)))))) (pr_cons (p_val (p_take (p_var 20))) pr_nil)) (len_cons (len_cons len_nil)))))))) (s_one (s_ret p_bl)) s_nil)
  (s_cons (s_setLc (own := [("leg", 13)]) (i := 14) (by decide) rfl S.nd rfl rfl rfl (i_seq rfl (p_take (p_sl rfl (p_var 7) o_no (o_in (p_bin op_add4 v_add (p_var 4) p_int))))) (blkOk_by (N := ["script", "row", "name", "sums", "k", "sure", "names", "legs", "begin", "dark", "made", "known", "minute", "leg", "out", "home", "back", "arrives", "turn", "bounds", "goes", "column"]) (sc := defScope (top 38)) (own := [("leg", 13)]) (by decide +kernel)) (fun _ _ _ _ _ => (g_name S.nd rfl (.inl rfl) (i := 13))) (fun _ _ _ _ _ => t_yes) (fun _ _ _ _ _ => (p_take (p_bin op_add4 v_add (p_ix ix_seq v_ix (p_var 13) p_int (fun _ _ => rfl)) (p_ca C_law_taken (by omega) gd hr L2.takes0 rfl (pr_cons (p_var 1) (pr_cons (p_val (p_take (p_bin op_add4 v_add (p_bin op_sub v_sub (p_ix ix_seq v_ix (p_var 13) p_int (fun _ _ => rfl)) (p_ix ix_seq v_ix (p_var 13) p_int (fun _ _ => rfl))) p_int))) pr_nil)) (len_cons (len_cons len_nil)))))))
  (s_cons (s_set S.nd (i := 15) rfl (.inl rfl) (p_bin op_add4 v_add (p_bin op_add4 v_add (p_var 8) (p_blt (cr_sum rfl) v_sum rfl T.sum bb_sum (pr_cons (p_var 14) pr_nil))) (p_blt (cr_sum rfl) v_sum rfl T.sum bb_sum (pr_cons (p_lc (own := [("leg", 13)]) (by decide) rfl S.nd (i_seq rfl (p_take (p_sl rfl (p_var 7) o_no (o_in (p_bin op_add4 v_add (p_var 4) p_int))))) (blkOk_by (N := ["script", "row", "name", "sums", "k", "sure", "names", "legs", "begin", "dark", "made", "known", "minute", "leg", "out", "home", "back", "arrives", "turn", "bounds", "goes", "column"]) (sc := defScope (top 38)) (own := [("leg", 13)]) (by decide +kernel)) (fun _ _ _ _ _ => (g_name S.nd rfl (.inl rfl) (i := 13))) (fun _ _ _ _ _ => t_yes) (fun _ _ _ _ _ => (p_take (p_bin op_add4 v_add (p_ix ix_seq v_ix (p_var 13) p_int (fun _ _ => rfl)) (p_ca C_law_taken (by omega) gd hr L2.takes0 rfl (pr_cons (p_var 1) (pr_cons (p_val (p_take (p_bin op_add4 v_add (p_bin op_sub v_sub (p_ix ix_seq v_ix (p_var 13) p_int (fun _ _ => rfl)) (p_ix ix_seq v_ix (p_var 13) p_int (fun _ _ => rfl))) p_int))) pr_nil)) (len_cons (len_cons len_nil))))))) pr_nil))))
  (s_one (s_if (t_w (w_or (t_w (w_and (p_tcmp (op_inX (hu65 hr)) v_inX (p_var 2) (p_var 5) rfl) (w_and1 (p_tcmp op_gt v_cmp (p_var 15) (p_var 9) rfl)))) (w_or1 (t_w (w_and (p_tcmp op_le v_cmp (p_var 15) (p_var 9) rfl) (w_and1 (p_not (p_tst (p_cm CWalk_may_be_back T.own_Walk.cl (by omega) gd hr (takes_of rfl rfl rfl rfl) (p_var 10) (pr_cons (p_val (p_take (p_var 2))) pr_nil) (by change (lay_k15 6).all _ = true; decide) (len_suc (len_cons len_nil))))))))))) (s_one (s_ret p_bl)) s_nil)))))))))))))
  (s_one (s_ret (v_and (p_ca C_law_seen (by omega) gd hr (takes_of rfl rfl rfl rfl) rfl (pr_cons (p_var 1) (pr_cons (p_val (p_take (p_var 10))) (pr_cons (p_tup (pr_cons (p_val (p_take (p_var 8))) (pr_cons (p_val (p_take (p_var 9))) (pr_cons (p_val (p_take (p_var 7))) pr_nil)))) (pr_cons (p_val (p_take (p_var 11))) pr_nil)))) (len_cons (len_cons (len_cons (len_cons len_nil))))) (v_one (p_ca C_law_refused (by omega) gd hr (takes_of rfl rfl rfl rfl) rfl (pr_cons (p_var 1) (pr_cons (p_val (p_take (p_var 10))) (pr_cons (p_tup (pr_cons (p_val (p_take (p_var 8))) (pr_cons (p_val (p_take (p_var 9))) (pr_cons (p_val (p_take (p_var 7))) pr_nil)))) (pr_cons (p_val (p_take (p_var 6))) pr_nil)))) (len_cons (len_cons (len_cons (len_cons len_nil))))))))))))))))))))
end
end PV

set_option maxHeartbeats 4000000
namespace PV
open PySem PySem.Spec L2 PyProof.Rows
theorem all_mk {w : World} {K : PySem.W.Frag} {h : Heap} {mg : Str → Option Value} {fa : Addr} (hp : ∀ ns : List Int, ns.length ≤ 63 → ∃ πs, Flaw [.val (.scr ns)] = .ok (.val (.bl true)) πs) (X : K.In h) (G : h.Ns mainGlobals mg) (hfa : mg "law" = some (.ref fa))
    {gt_FIGURES : Tok}
    {gt_LETTERS : Tok}
    {gt_LONGEST_NAME : Tok}
    {gt_MOST_POINTS : Tok}
    {C_HutsError : Addr}
    {C_BadNumber : Addr}
    {C_BadItem : Addr}
    {C_TooMany : Addr}
    {C_Unknown : Addr}
    {C_Taken : Addr}
    {C_Walk : Addr}
    {nm_BadNumber q_BadNumber : Str} {N_BadNumber : Addr} {bs_BadNumber bm_BadNumber sb_BadNumber : List Value} {sn_BadNumber : List Str} {ab_BadNumber : Bool} {col_BadNumber : Option Bool} {dd_BadNumber : Option Addr} {k0_BadNumber k1_BadNumber k2_BadNumber k3_BadNumber k5_BadNumber : Option Value}
    {fI_BadNumber cc_BadNumber cda_BadNumber : Addr} {oc_BadNumber kV_BadNumber dc_BadNumber pm_BadNumber ct_BadNumber : Value} {od_BadNumber an_BadNumber : Option Addr} {sl_BadNumber : Array (Option Value)}
    {cl_BadNumber ccl_BadNumber : Value} {cld_BadNumber cdd_BadNumber : Option Addr} {csl_BadNumber ccs_BadNumber : Array (Option Value)} {cvs_BadNumber : Array Value} {file_BadNumber : Str} {tf_BadNumber : Tok} {cd_BadNumber : ClassData}
    {lc0_BadNumber : Value} {ld0_BadNumber : Option Addr} {lcd_BadNumber : ClassData} {ls0_BadNumber : Array (Option Value)}
    {nm_BadItem q_BadItem : Str} {N_BadItem : Addr} {bs_BadItem bm_BadItem sb_BadItem : List Value} {sn_BadItem : List Str} {ab_BadItem : Bool} {col_BadItem : Option Bool} {dd_BadItem : Option Addr} {k0_BadItem k1_BadItem k2_BadItem k3_BadItem k5_BadItem : Option Value}
    {fI_BadItem cc_BadItem cda_BadItem : Addr} {oc_BadItem kV_BadItem dc_BadItem pm_BadItem ct_BadItem : Value} {od_BadItem an_BadItem : Option Addr} {sl_BadItem : Array (Option Value)}
    {cl_BadItem ccl_BadItem : Value} {cld_BadItem cdd_BadItem : Option Addr} {csl_BadItem ccs_BadItem : Array (Option Value)} {cvs_BadItem : Array Value} {file_BadItem : Str} {tf_BadItem : Tok} {cd_BadItem : ClassData}
    {lc0_BadItem : Value} {ld0_BadItem : Option Addr} {lcd_BadItem : ClassData} {ls0_BadItem : Array (Option Value)}
    {nm_TooMany q_TooMany : Str} {N_TooMany : Addr} {bs_TooMany bm_TooMany sb_TooMany : List Value} {sn_TooMany : List Str} {ab_TooMany : Bool} {col_TooMany : Option Bool} {dd_TooMany : Option Addr} {k0_TooMany k1_TooMany k2_TooMany k3_TooMany k5_TooMany : Option Value}
    {fI_TooMany cc_TooMany cda_TooMany : Addr} {oc_TooMany kV_TooMany dc_TooMany pm_TooMany ct_TooMany : Value} {od_TooMany an_TooMany : Option Addr} {sl_TooMany : Array (Option Value)}
    {cl_TooMany ccl_TooMany : Value} {cld_TooMany cdd_TooMany : Option Addr} {csl_TooMany ccs_TooMany : Array (Option Value)} {cvs_TooMany : Array Value} {file_TooMany : Str} {tf_TooMany : Tok} {cd_TooMany : ClassData}
    {lc0_TooMany : Value} {ld0_TooMany : Option Addr} {lcd_TooMany : ClassData} {ls0_TooMany : Array (Option Value)}
    {nm_Unknown q_Unknown : Str} {N_Unknown : Addr} {bs_Unknown bm_Unknown sb_Unknown : List Value} {sn_Unknown : List Str} {ab_Unknown : Bool} {col_Unknown : Option Bool} {dd_Unknown : Option Addr} {k0_Unknown k1_Unknown k2_Unknown k3_Unknown k5_Unknown : Option Value}
    {fI_Unknown cc_Unknown cda_Unknown : Addr} {oc_Unknown kV_Unknown dc_Unknown pm_Unknown ct_Unknown : Value} {od_Unknown an_Unknown : Option Addr} {sl_Unknown : Array (Option Value)}
    {cl_Unknown ccl_Unknown : Value} {cld_Unknown cdd_Unknown : Option Addr} {csl_Unknown ccs_Unknown : Array (Option Value)} {cvs_Unknown : Array Value} {file_Unknown : Str} {tf_Unknown : Tok} {cd_Unknown : ClassData}
    {lc0_Unknown : Value} {ld0_Unknown : Option Addr} {lcd_Unknown : ClassData} {ls0_Unknown : Array (Option Value)}
    {nm_Taken q_Taken : Str} {N_Taken : Addr} {bs_Taken bm_Taken sb_Taken : List Value} {sn_Taken : List Str} {ab_Taken : Bool} {col_Taken : Option Bool} {dd_Taken : Option Addr} {k0_Taken k1_Taken k2_Taken k3_Taken k5_Taken : Option Value}
    {fI_Taken cc_Taken cda_Taken : Addr} {oc_Taken kV_Taken dc_Taken pm_Taken ct_Taken : Value} {od_Taken an_Taken : Option Addr} {sl_Taken : Array (Option Value)}
    {cl_Taken ccl_Taken : Value} {cld_Taken cdd_Taken : Option Addr} {csl_Taken ccs_Taken : Array (Option Value)} {cvs_Taken : Array Value} {file_Taken : Str} {tf_Taken : Tok} {cd_Taken : ClassData}
    {lc0_Taken : Value} {ld0_Taken : Option Addr} {lcd_Taken : ClassData} {ls0_Taken : Array (Option Value)}
    {cdo_Walk : ClassData}
    {f__law_taken : Addr} {od__law_taken an__law_taken : Option Addr} {sl__law_taken : Array (Option Value)} {oc__law_taken kV__law_taken dc__law_taken pm__law_taken cd__law_taken ct__law_taken : Value}
    {f__law_pick : Addr} {od__law_pick an__law_pick : Option Addr} {sl__law_pick : Array (Option Value)} {oc__law_pick kV__law_pick dc__law_pick pm__law_pick cd__law_pick ct__law_pick : Value}
    {f__law_name : Addr} {od__law_name an__law_name : Option Addr} {sl__law_name : Array (Option Value)} {oc__law_name kV__law_name dc__law_name pm__law_name cd__law_name ct__law_name : Value}
    {f__law_names : Addr} {od__law_names an__law_names : Option Addr} {sl__law_names : Array (Option Value)} {oc__law_names kV__law_names dc__law_names pm__law_names cd__law_names ct__law_names : Value}
    {f_is_whole : Addr} {od_is_whole an_is_whole : Option Addr} {sl_is_whole : Array (Option Value)} {oc_is_whole kV_is_whole dc_is_whole pm_is_whole cd_is_whole ct_is_whole : Value}
    {f_is_number : Addr} {od_is_number an_is_number : Option Addr} {sl_is_number : Array (Option Value)} {oc_is_number kV_is_number dc_is_number pm_is_number cd_is_number ct_is_number : Value}
    {f_want_number : Addr} {od_want_number an_want_number : Option Addr} {sl_want_number : Array (Option Value)} {oc_want_number kV_want_number dc_want_number pm_want_number cd_want_number ct_want_number : Value}
    {f_frozen : Addr} {od_frozen an_frozen : Option Addr} {sl_frozen : Array (Option Value)} {oc_frozen kV_frozen dc_frozen pm_frozen cd_frozen ct_frozen : Value}
    {f_is_row : Addr} {od_is_row an_is_row : Option Addr} {sl_is_row : Array (Option Value)} {oc_is_row kV_is_row dc_is_row pm_is_row cd_is_row ct_is_row : Value}
    {f_is_name : Addr} {od_is_name an_is_name : Option Addr} {sl_is_name : Array (Option Value)} {oc_is_name kV_is_name dc_is_name pm_is_name cd_is_name ct_is_name : Value}
    {f_is_leg : Addr} {od_is_leg an_is_leg : Option Addr} {sl_is_leg : Array (Option Value)} {oc_is_leg kV_is_leg dc_is_leg pm_is_leg cd_is_leg ct_is_leg : Value}
    {f_want_row : Addr} {od_want_row an_want_row : Option Addr} {sl_want_row : Array (Option Value)} {oc_want_row kV_want_row dc_want_row pm_want_row cd_want_row ct_want_row : Value}
    {f_Walk_init : Addr} {od_Walk_init an_Walk_init : Option Addr} {sl_Walk_init : Array (Option Value)} {oc_Walk_init kV_Walk_init dc_Walk_init pm_Walk_init cd_Walk_init ct_Walk_init : Value}
    {f_Walk_eq : Addr} {od_Walk_eq an_Walk_eq : Option Addr} {sl_Walk_eq : Array (Option Value)} {oc_Walk_eq kV_Walk_eq dc_Walk_eq pm_Walk_eq cd_Walk_eq ct_Walk_eq : Value}
    {f_Walk_place : Addr} {od_Walk_place an_Walk_place : Option Addr} {sl_Walk_place : Array (Option Value)} {oc_Walk_place kV_Walk_place dc_Walk_place pm_Walk_place cd_Walk_place ct_Walk_place : Value}
    {f_Walk_back : Addr} {od_Walk_back an_Walk_back : Option Addr} {sl_Walk_back : Array (Option Value)} {oc_Walk_back kV_Walk_back dc_Walk_back pm_Walk_back cd_Walk_back ct_Walk_back : Value}
    {f_Walk_turn_at : Addr} {od_Walk_turn_at an_Walk_turn_at : Option Addr} {sl_Walk_turn_at : Array (Option Value)} {oc_Walk_turn_at kV_Walk_turn_at dc_Walk_turn_at pm_Walk_turn_at cd_Walk_turn_at ct_Walk_turn_at : Value}
    {f_Walk_arrives : Addr} {od_Walk_arrives an_Walk_arrives : Option Addr} {sl_Walk_arrives : Array (Option Value)} {oc_Walk_arrives kV_Walk_arrives dc_Walk_arrives pm_Walk_arrives cd_Walk_arrives ct_Walk_arrives : Value}
    {f_Walk_surely_back : Addr} {od_Walk_surely_back an_Walk_surely_back : Option Addr} {sl_Walk_surely_back : Array (Option Value)} {oc_Walk_surely_back kV_Walk_surely_back dc_Walk_surely_back pm_Walk_surely_back cd_Walk_surely_back ct_Walk_surely_back : Value}
    {f_Walk_farthest_sure : Addr} {od_Walk_farthest_sure an_Walk_farthest_sure : Option Addr} {sl_Walk_farthest_sure : Array (Option Value)} {oc_Walk_farthest_sure kV_Walk_farthest_sure dc_Walk_farthest_sure pm_Walk_farthest_sure cd_Walk_farthest_sure ct_Walk_farthest_sure : Value}
    {f__law_some : Addr} {od__law_some an__law_some : Option Addr} {sl__law_some : Array (Option Value)} {oc__law_some kV__law_some dc__law_some pm__law_some cd__law_some ct__law_some : Value}
    {f__law_truth : Addr} {od__law_truth an__law_truth : Option Addr} {sl__law_truth : Array (Option Value)} {oc__law_truth kV__law_truth dc__law_truth pm__law_truth cd__law_truth ct__law_truth : Value}
    {f_Walk_can_be : Addr} {od_Walk_can_be an_Walk_can_be : Option Addr} {sl_Walk_can_be : Array (Option Value)} {oc_Walk_can_be kV_Walk_can_be dc_Walk_can_be pm_Walk_can_be cd_Walk_can_be ct_Walk_can_be : Value}
    {f_Walk_must_turn : Addr} {od_Walk_must_turn an_Walk_must_turn : Option Addr} {sl_Walk_must_turn : Array (Option Value)} {oc_Walk_must_turn kV_Walk_must_turn dc_Walk_must_turn pm_Walk_must_turn cd_Walk_must_turn ct_Walk_must_turn : Value}
    {f_Walk_slower : Addr} {od_Walk_slower an_Walk_slower : Option Addr} {sl_Walk_slower : Array (Option Value)} {oc_Walk_slower kV_Walk_slower dc_Walk_slower pm_Walk_slower cd_Walk_slower ct_Walk_slower : Value}
    {f_Walk_later : Addr} {od_Walk_later an_Walk_later : Option Addr} {sl_Walk_later : Array (Option Value)} {oc_Walk_later kV_Walk_later dc_Walk_later pm_Walk_later cd_Walk_later ct_Walk_later : Value}
    {f__law_seen : Addr} {od__law_seen an__law_seen : Option Addr} {sl__law_seen : Array (Option Value)} {oc__law_seen kV__law_seen dc__law_seen pm__law_seen cd__law_seen ct__law_seen : Value}
    {f__law_strange : Addr} {od__law_strange an__law_strange : Option Addr} {sl__law_strange : Array (Option Value)} {oc__law_strange kV__law_strange dc__law_strange pm__law_strange cd__law_strange ct__law_strange : Value}
    {f_want_minute : Addr} {od_want_minute an_want_minute : Option Addr} {sl_want_minute : Array (Option Value)} {oc_want_minute kV_want_minute dc_want_minute pm_want_minute cd_want_minute ct_want_minute : Value}
    {f__law_whole : Addr} {od__law_whole an__law_whole : Option Addr} {sl__law_whole : Array (Option Value)} {oc__law_whole kV__law_whole dc__law_whole pm__law_whole cd__law_whole ct__law_whole : Value}
    {f__law_refused_row : Addr} {od__law_refused_row an__law_refused_row : Option Addr} {sl__law_refused_row : Array (Option Value)} {oc__law_refused_row kV__law_refused_row dc__law_refused_row pm__law_refused_row cd__law_refused_row ct__law_refused_row : Value}
    {f__law_raised : Addr} {od__law_raised an__law_raised : Option Addr} {sl__law_raised : Array (Option Value)} {oc__law_raised kV__law_raised dc__law_raised pm__law_raised cd__law_raised ct__law_raised : Value}
    {f__law_refused : Addr} {od__law_refused an__law_refused : Option Addr} {sl__law_refused : Array (Option Value)} {oc__law_refused kV__law_refused dc__law_refused pm__law_refused cd__law_refused ct__law_refused : Value}
    {f__law_mixed : Addr} {od__law_mixed an__law_mixed : Option Addr} {sl__law_mixed : Array (Option Value)} {oc__law_mixed kV__law_mixed dc__law_mixed pm__law_mixed cd__law_mixed ct__law_mixed : Value}
    {f__law_alike : Addr} {od__law_alike an__law_alike : Option Addr} {sl__law_alike : Array (Option Value)} {oc__law_alike kV__law_alike dc__law_alike pm__law_alike cd__law_alike ct__law_alike : Value}
    {f_Walk_next_bounds : Addr} {od_Walk_next_bounds an_Walk_next_bounds : Option Addr} {sl_Walk_next_bounds : Array (Option Value)} {oc_Walk_next_bounds kV_Walk_next_bounds dc_Walk_next_bounds pm_Walk_next_bounds cd_Walk_next_bounds ct_Walk_next_bounds : Value}
    {f_Walk_may_be_back : Addr} {od_Walk_may_be_back an_Walk_may_be_back : Option Addr} {sl_Walk_may_be_back : Array (Option Value)} {oc_Walk_may_be_back kV_Walk_may_be_back dc_Walk_may_be_back pm_Walk_may_be_back cd_Walk_may_be_back ct_Walk_may_be_back : Value}
    {f_Walk_rest_at : Addr} {od_Walk_rest_at an_Walk_rest_at : Option Addr} {sl_Walk_rest_at : Array (Option Value)} {oc_Walk_rest_at kV_Walk_rest_at dc_Walk_rest_at pm_Walk_rest_at cd_Walk_rest_at ct_Walk_rest_at : Value}
    {f_Walk_latest_begin : Addr} {od_Walk_latest_begin an_Walk_latest_begin : Option Addr} {sl_Walk_latest_begin : Array (Option Value)} {oc_Walk_latest_begin kV_Walk_latest_begin dc_Walk_latest_begin pm_Walk_latest_begin cd_Walk_latest_begin ct_Walk_latest_begin : Value}
    {f_Walk_go_on : Addr} {od_Walk_go_on an_Walk_go_on : Option Addr} {sl_Walk_go_on : Array (Option Value)} {oc_Walk_go_on kV_Walk_go_on dc_Walk_go_on pm_Walk_go_on cd_Walk_go_on ct_Walk_go_on : Value}
    {f_law : Addr} {od_law an_law : Option Addr} {sl_law : Array (Option Value)} {oc_law kV_law dc_law pm_law cd_law ct_law : Value}
    (z_all_ : PySem.W.nsIn K mainGlobals "all" = some none)
    (z_bool_ : PySem.W.nsIn K mainGlobals "bool" = some none)
    (z_enumerate : PySem.W.nsIn K mainGlobals "enumerate" = some none)
    (z_int_ : PySem.W.nsIn K mainGlobals "int" = some none)
    (z_isinstance : PySem.W.nsIn K mainGlobals "isinstance" = some none)
    (z_len : PySem.W.nsIn K mainGlobals "len" = some none)
    (z_list : PySem.W.nsIn K mainGlobals "list" = some none)
    (z_range : PySem.W.nsIn K mainGlobals "range" = some none)
    (z_repr : PySem.W.nsIn K mainGlobals "repr" = some none)
    (z_str_ : PySem.W.nsIn K mainGlobals "str" = some none)
    (z_sum : PySem.W.nsIn K mainGlobals "sum" = some none)
    (z_super : PySem.W.nsIn K mainGlobals "super" = some none)
    (z_tuple : PySem.W.nsIn K mainGlobals "tuple" = some none)
    (g_FIGURES : PySem.W.nsIn K mainGlobals "FIGURES" = some (some (.str "0123456789" gt_FIGURES)))
    (g_LETTERS : PySem.W.nsIn K mainGlobals "LETTERS" = some (some (.str "abcdefghijklmnopqrstuvwxyz" gt_LETTERS)))
    (g_LONGEST_NAME : PySem.W.nsIn K mainGlobals "LONGEST_NAME" = some (some (.int 12 gt_LONGEST_NAME)))
    (g_MOST_POINTS : PySem.W.nsIn K mainGlobals "MOST_POINTS" = some (some (.int 10 gt_MOST_POINTS)))
    (a_HutsError : PySem.W.nsIn K mainGlobals "HutsError" = some (some (.ref C_HutsError)))
    (a_BadNumber : PySem.W.nsIn K mainGlobals "BadNumber" = some (some (.ref C_BadNumber)))
    (a_BadItem : PySem.W.nsIn K mainGlobals "BadItem" = some (some (.ref C_BadItem)))
    (a_TooMany : PySem.W.nsIn K mainGlobals "TooMany" = some (some (.ref C_TooMany)))
    (a_Unknown : PySem.W.nsIn K mainGlobals "Unknown" = some (some (.ref C_Unknown)))
    (a_Taken : PySem.W.nsIn K mainGlobals "Taken" = some (some (.ref C_Taken)))
    (a_Walk : PySem.W.nsIn K mainGlobals "Walk" = some (some (.ref C_Walk)))
    (anyT : PySem.W.nsIn K cStatics "thirdparty.any" = some none)
    (l_BadNumber : K.lookup C_BadNumber = some (excClassObj nm_BadNumber q_BadNumber C_BadNumber N_BadNumber bs_BadNumber bm_BadNumber true sn_BadNumber sb_BadNumber ab_BadNumber col_BadNumber dd_BadNumber k0_BadNumber k1_BadNumber k2_BadNumber k3_BadNumber k5_BadNumber "ValueError.__new__"))
    (v_BadNumber : PySem.HandSPX.refsVE bm_BadNumber = true)
    (s_BadNumber : PySem.W.findIn K (.ref C_BadNumber) "__setattr__" = some (some (.builtin "object.__setattr__")))
    (e_BadNumber : PySem.W.subIn K (.ref C_BadNumber) (.type "BaseException") = some true)
    (t_BadNumber : PySem.W.typeIn K (.ref C_BadNumber) = some (.type "type"))
    (k_BadNumber : PySem.W.keepIn K (.ref C_BadNumber) = true)
    (i_BadNumber : PySem.W.findIn K (.ref C_BadNumber) "__init__" = some (some (.ref fI_BadNumber)))
    (it_BadNumber : PySem.W.typeIn K (.ref fI_BadNumber) = some (.type "function"))
    (il_BadNumber : K.lookup fI_BadNumber = some ⟨oc_BadNumber, od_BadNumber, .func (PySem.W.fnX "__init__" "BadNumber.__init__" (defArgs (inClass (top 2) 0)) (defBody (inClass (top 2) 0)) (defScope (inClass (top 2) 0)) [("__class__", cc_BadNumber)] .none kV_BadNumber dc_BadNumber pm_BadNumber an_BadNumber (.ref cda_BadNumber) ct_BadNumber), sl_BadNumber⟩)
    (ic_BadNumber : PySem.W.codeIn K (.ref cda_BadNumber) "BadNumber.__init__" = true)
    (cc_BadNumber' : K.lookup cc_BadNumber = some ⟨cl_BadNumber, cld_BadNumber, .cell (some (.ref C_BadNumber)), csl_BadNumber⟩)
    (co_BadNumber : K.lookup cda_BadNumber = some ⟨ccl_BadNumber, cdd_BadNumber, .fields cvs_BadNumber, ccs_BadNumber⟩)
    (cv_BadNumber : cvs_BadNumber[2]? = some (.str file_BadNumber tf_BadNumber))
    (cf_BadNumber : (PySem.Challenge.pw_huttohut_k15_whole_turns.main.file == file_BadNumber) = true)
    (cd_BadNumber' : PySem.W.clsIn K C_BadNumber = some cd_BadNumber)
    (m_BadNumber : PySem.W.mroIn K C_BadNumber (.ref C_BadNumber) = some true)
    (lb_BadNumber : K.lookup C_HutsError = some ⟨lc0_BadNumber, ld0_BadNumber, .cls lcd_BadNumber, ls0_BadNumber⟩)
    (fi_BadNumber : PySem.W.findIn K (.ref C_HutsError) "__init__" = some (some (.builtin "ValueError.__init__")))
    (mr_BadNumber : (cd_BadNumber.mro.dropWhile (· != .ref C_BadNumber)).drop 1 = lcd_BadNumber.mro)
    (b_BadNumber : PySem.W.subIn K (.ref C_BadNumber) (.type "ValueError") = some true)
    (n_BadNumber_value : PySem.W.findIn K (.ref C_BadNumber) "value" = some none)
    (x1_BadNumber : PySem.W.findIn K (.ref C_BadNumber) "__getattribute__" = some (some (.builtin "BaseException.__getattribute__")))
    (x2_BadNumber : PySem.W.findIn K (.ref C_BadNumber) "__getattr__" = some none)
    (x4_BadNumber : PySem.W.hasDictIn K C_BadNumber = true)
    (l_BadItem : K.lookup C_BadItem = some (excClassObj nm_BadItem q_BadItem C_BadItem N_BadItem bs_BadItem bm_BadItem true sn_BadItem sb_BadItem ab_BadItem col_BadItem dd_BadItem k0_BadItem k1_BadItem k2_BadItem k3_BadItem k5_BadItem "ValueError.__new__"))
    (v_BadItem : PySem.HandSPX.refsVE bm_BadItem = true)
    (s_BadItem : PySem.W.findIn K (.ref C_BadItem) "__setattr__" = some (some (.builtin "object.__setattr__")))
    (e_BadItem : PySem.W.subIn K (.ref C_BadItem) (.type "BaseException") = some true)
    (t_BadItem : PySem.W.typeIn K (.ref C_BadItem) = some (.type "type"))
    (k_BadItem : PySem.W.keepIn K (.ref C_BadItem) = true)
    (i_BadItem : PySem.W.findIn K (.ref C_BadItem) "__init__" = some (some (.ref fI_BadItem)))
    (it_BadItem : PySem.W.typeIn K (.ref fI_BadItem) = some (.type "function"))
    (il_BadItem : K.lookup fI_BadItem = some ⟨oc_BadItem, od_BadItem, .func (PySem.W.fnX "__init__" "BadItem.__init__" (defArgs (inClass (top 3) 0)) (defBody (inClass (top 3) 0)) (defScope (inClass (top 3) 0)) [("__class__", cc_BadItem)] .none kV_BadItem dc_BadItem pm_BadItem an_BadItem (.ref cda_BadItem) ct_BadItem), sl_BadItem⟩)
    (ic_BadItem : PySem.W.codeIn K (.ref cda_BadItem) "BadItem.__init__" = true)
    (cc_BadItem' : K.lookup cc_BadItem = some ⟨cl_BadItem, cld_BadItem, .cell (some (.ref C_BadItem)), csl_BadItem⟩)
    (co_BadItem : K.lookup cda_BadItem = some ⟨ccl_BadItem, cdd_BadItem, .fields cvs_BadItem, ccs_BadItem⟩)
    (cv_BadItem : cvs_BadItem[2]? = some (.str file_BadItem tf_BadItem))
    (cf_BadItem : (PySem.Challenge.pw_huttohut_k15_whole_turns.main.file == file_BadItem) = true)
    (cd_BadItem' : PySem.W.clsIn K C_BadItem = some cd_BadItem)
    (m_BadItem : PySem.W.mroIn K C_BadItem (.ref C_BadItem) = some true)
    (lb_BadItem : K.lookup C_HutsError = some ⟨lc0_BadItem, ld0_BadItem, .cls lcd_BadItem, ls0_BadItem⟩)
    (fi_BadItem : PySem.W.findIn K (.ref C_HutsError) "__init__" = some (some (.builtin "ValueError.__init__")))
    (mr_BadItem : (cd_BadItem.mro.dropWhile (· != .ref C_BadItem)).drop 1 = lcd_BadItem.mro)
    (b_BadItem : PySem.W.subIn K (.ref C_BadItem) (.type "ValueError") = some true)
    (n_BadItem_index : PySem.W.findIn K (.ref C_BadItem) "index" = some none)
    (x1_BadItem : PySem.W.findIn K (.ref C_BadItem) "__getattribute__" = some (some (.builtin "BaseException.__getattribute__")))
    (x2_BadItem : PySem.W.findIn K (.ref C_BadItem) "__getattr__" = some none)
    (x4_BadItem : PySem.W.hasDictIn K C_BadItem = true)
    (l_TooMany : K.lookup C_TooMany = some (excClassObj nm_TooMany q_TooMany C_TooMany N_TooMany bs_TooMany bm_TooMany true sn_TooMany sb_TooMany ab_TooMany col_TooMany dd_TooMany k0_TooMany k1_TooMany k2_TooMany k3_TooMany k5_TooMany "ValueError.__new__"))
    (v_TooMany : PySem.HandSPX.refsVE bm_TooMany = true)
    (s_TooMany : PySem.W.findIn K (.ref C_TooMany) "__setattr__" = some (some (.builtin "object.__setattr__")))
    (e_TooMany : PySem.W.subIn K (.ref C_TooMany) (.type "BaseException") = some true)
    (t_TooMany : PySem.W.typeIn K (.ref C_TooMany) = some (.type "type"))
    (k_TooMany : PySem.W.keepIn K (.ref C_TooMany) = true)
    (i_TooMany : PySem.W.findIn K (.ref C_TooMany) "__init__" = some (some (.ref fI_TooMany)))
    (it_TooMany : PySem.W.typeIn K (.ref fI_TooMany) = some (.type "function"))
    (il_TooMany : K.lookup fI_TooMany = some ⟨oc_TooMany, od_TooMany, .func (PySem.W.fnX "__init__" "TooMany.__init__" (defArgs (inClass (top 4) 0)) (defBody (inClass (top 4) 0)) (defScope (inClass (top 4) 0)) [("__class__", cc_TooMany)] .none kV_TooMany dc_TooMany pm_TooMany an_TooMany (.ref cda_TooMany) ct_TooMany), sl_TooMany⟩)
    (ic_TooMany : PySem.W.codeIn K (.ref cda_TooMany) "TooMany.__init__" = true)
    (cc_TooMany' : K.lookup cc_TooMany = some ⟨cl_TooMany, cld_TooMany, .cell (some (.ref C_TooMany)), csl_TooMany⟩)
    (co_TooMany : K.lookup cda_TooMany = some ⟨ccl_TooMany, cdd_TooMany, .fields cvs_TooMany, ccs_TooMany⟩)
    (cv_TooMany : cvs_TooMany[2]? = some (.str file_TooMany tf_TooMany))
    (cf_TooMany : (PySem.Challenge.pw_huttohut_k15_whole_turns.main.file == file_TooMany) = true)
    (cd_TooMany' : PySem.W.clsIn K C_TooMany = some cd_TooMany)
    (m_TooMany : PySem.W.mroIn K C_TooMany (.ref C_TooMany) = some true)
    (lb_TooMany : K.lookup C_HutsError = some ⟨lc0_TooMany, ld0_TooMany, .cls lcd_TooMany, ls0_TooMany⟩)
    (fi_TooMany : PySem.W.findIn K (.ref C_HutsError) "__init__" = some (some (.builtin "ValueError.__init__")))
    (mr_TooMany : (cd_TooMany.mro.dropWhile (· != .ref C_TooMany)).drop 1 = lcd_TooMany.mro)
    (b_TooMany : PySem.W.subIn K (.ref C_TooMany) (.type "ValueError") = some true)
    (n_TooMany_limit : PySem.W.findIn K (.ref C_TooMany) "limit" = some none)
    (x1_TooMany : PySem.W.findIn K (.ref C_TooMany) "__getattribute__" = some (some (.builtin "BaseException.__getattribute__")))
    (x2_TooMany : PySem.W.findIn K (.ref C_TooMany) "__getattr__" = some none)
    (x4_TooMany : PySem.W.hasDictIn K C_TooMany = true)
    (l_Unknown : K.lookup C_Unknown = some (excClassObj nm_Unknown q_Unknown C_Unknown N_Unknown bs_Unknown bm_Unknown true sn_Unknown sb_Unknown ab_Unknown col_Unknown dd_Unknown k0_Unknown k1_Unknown k2_Unknown k3_Unknown k5_Unknown "ValueError.__new__"))
    (v_Unknown : PySem.HandSPX.refsVE bm_Unknown = true)
    (s_Unknown : PySem.W.findIn K (.ref C_Unknown) "__setattr__" = some (some (.builtin "object.__setattr__")))
    (e_Unknown : PySem.W.subIn K (.ref C_Unknown) (.type "BaseException") = some true)
    (t_Unknown : PySem.W.typeIn K (.ref C_Unknown) = some (.type "type"))
    (k_Unknown : PySem.W.keepIn K (.ref C_Unknown) = true)
    (i_Unknown : PySem.W.findIn K (.ref C_Unknown) "__init__" = some (some (.ref fI_Unknown)))
    (it_Unknown : PySem.W.typeIn K (.ref fI_Unknown) = some (.type "function"))
    (il_Unknown : K.lookup fI_Unknown = some ⟨oc_Unknown, od_Unknown, .func (PySem.W.fnX "__init__" "Unknown.__init__" (defArgs (inClass (top 5) 0)) (defBody (inClass (top 5) 0)) (defScope (inClass (top 5) 0)) [("__class__", cc_Unknown)] .none kV_Unknown dc_Unknown pm_Unknown an_Unknown (.ref cda_Unknown) ct_Unknown), sl_Unknown⟩)
    (ic_Unknown : PySem.W.codeIn K (.ref cda_Unknown) "Unknown.__init__" = true)
    (cc_Unknown' : K.lookup cc_Unknown = some ⟨cl_Unknown, cld_Unknown, .cell (some (.ref C_Unknown)), csl_Unknown⟩)
    (co_Unknown : K.lookup cda_Unknown = some ⟨ccl_Unknown, cdd_Unknown, .fields cvs_Unknown, ccs_Unknown⟩)
    (cv_Unknown : cvs_Unknown[2]? = some (.str file_Unknown tf_Unknown))
    (cf_Unknown : (PySem.Challenge.pw_huttohut_k15_whole_turns.main.file == file_Unknown) = true)
    (cd_Unknown' : PySem.W.clsIn K C_Unknown = some cd_Unknown)
    (m_Unknown : PySem.W.mroIn K C_Unknown (.ref C_Unknown) = some true)
    (lb_Unknown : K.lookup C_HutsError = some ⟨lc0_Unknown, ld0_Unknown, .cls lcd_Unknown, ls0_Unknown⟩)
    (fi_Unknown : PySem.W.findIn K (.ref C_HutsError) "__init__" = some (some (.builtin "ValueError.__init__")))
    (mr_Unknown : (cd_Unknown.mro.dropWhile (· != .ref C_Unknown)).drop 1 = lcd_Unknown.mro)
    (b_Unknown : PySem.W.subIn K (.ref C_Unknown) (.type "ValueError") = some true)
    (n_Unknown_value : PySem.W.findIn K (.ref C_Unknown) "value" = some none)
    (x1_Unknown : PySem.W.findIn K (.ref C_Unknown) "__getattribute__" = some (some (.builtin "BaseException.__getattribute__")))
    (x2_Unknown : PySem.W.findIn K (.ref C_Unknown) "__getattr__" = some none)
    (x4_Unknown : PySem.W.hasDictIn K C_Unknown = true)
    (l_Taken : K.lookup C_Taken = some (excClassObj nm_Taken q_Taken C_Taken N_Taken bs_Taken bm_Taken true sn_Taken sb_Taken ab_Taken col_Taken dd_Taken k0_Taken k1_Taken k2_Taken k3_Taken k5_Taken "ValueError.__new__"))
    (v_Taken : PySem.HandSPX.refsVE bm_Taken = true)
    (s_Taken : PySem.W.findIn K (.ref C_Taken) "__setattr__" = some (some (.builtin "object.__setattr__")))
    (e_Taken : PySem.W.subIn K (.ref C_Taken) (.type "BaseException") = some true)
    (t_Taken : PySem.W.typeIn K (.ref C_Taken) = some (.type "type"))
    (k_Taken : PySem.W.keepIn K (.ref C_Taken) = true)
    (i_Taken : PySem.W.findIn K (.ref C_Taken) "__init__" = some (some (.ref fI_Taken)))
    (it_Taken : PySem.W.typeIn K (.ref fI_Taken) = some (.type "function"))
    (il_Taken : K.lookup fI_Taken = some ⟨oc_Taken, od_Taken, .func (PySem.W.fnX "__init__" "Taken.__init__" (defArgs (inClass (top 6) 0)) (defBody (inClass (top 6) 0)) (defScope (inClass (top 6) 0)) [("__class__", cc_Taken)] .none kV_Taken dc_Taken pm_Taken an_Taken (.ref cda_Taken) ct_Taken), sl_Taken⟩)
    (ic_Taken : PySem.W.codeIn K (.ref cda_Taken) "Taken.__init__" = true)
    (cc_Taken' : K.lookup cc_Taken = some ⟨cl_Taken, cld_Taken, .cell (some (.ref C_Taken)), csl_Taken⟩)
    (co_Taken : K.lookup cda_Taken = some ⟨ccl_Taken, cdd_Taken, .fields cvs_Taken, ccs_Taken⟩)
    (cv_Taken : cvs_Taken[2]? = some (.str file_Taken tf_Taken))
    (cf_Taken : (PySem.Challenge.pw_huttohut_k15_whole_turns.main.file == file_Taken) = true)
    (cd_Taken' : PySem.W.clsIn K C_Taken = some cd_Taken)
    (m_Taken : PySem.W.mroIn K C_Taken (.ref C_Taken) = some true)
    (lb_Taken : K.lookup C_HutsError = some ⟨lc0_Taken, ld0_Taken, .cls lcd_Taken, ls0_Taken⟩)
    (fi_Taken : PySem.W.findIn K (.ref C_HutsError) "__init__" = some (some (.builtin "ValueError.__init__")))
    (mr_Taken : (cd_Taken.mro.dropWhile (· != .ref C_Taken)).drop 1 = lcd_Taken.mro)
    (b_Taken : PySem.W.subIn K (.ref C_Taken) (.type "ValueError") = some true)
    (n_Taken_value : PySem.W.findIn K (.ref C_Taken) "value" = some none)
    (x1_Taken : PySem.W.findIn K (.ref C_Taken) "__getattribute__" = some (some (.builtin "BaseException.__getattribute__")))
    (x2_Taken : PySem.W.findIn K (.ref C_Taken) "__getattr__" = some none)
    (x4_Taken : PySem.W.hasDictIn K C_Taken = true)
    (hnG : PySem.W.specialIn K (.builtin "object.__class__") "__get__" = some (some (.builtin "getset_descriptor.__get__")))
    (htG : PySem.W.takesIn K (.builtin "object.__class__") = some true)
    (pg_Walk : PySem.W.plainGet K C_Walk Str.empty = true)
    (hd_Walk : PySem.W.hasDictIn K C_Walk = true)
    (po_Walk : PySem.W.plainOver K C_Walk = true)
    (sa_Walk : PySem.W.findIn K (.ref C_Walk) "__setattr__" = some (some (.builtin "object.__setattr__")))
    (mk_Walk : PySem.W.makesIn K C_Walk = true)
    (kc_Walk : PySem.W.keepIn K (.ref C_Walk) = true)
    (ha_Walk : PySem.W.findIn K (.ref C_Walk) "__class__" = some (some (.builtin "object.__class__")))
    (hm_Walk : PySem.W.mroIn K C_Walk (.type "object") = some true)
    (hc_Walk : PySem.W.clsIn K C_Walk = some cdo_Walk)
    (ty_Walk : PySem.W.typeIn K (.ref C_Walk) = some (.type "type"))
    (ne_Walk : PySem.W.findIn K (.ref C_Walk) "__ne__" = some (some (.builtin "object.__ne__")))
    (na_Walk_begin : PySem.W.findIn K (.ref C_Walk) "begin" = some none)
    (na_Walk_dark : PySem.W.findIn K (.ref C_Walk) "dark" = some none)
    (na_Walk_legs : PySem.W.findIn K (.ref C_Walk) "legs" = some none)
    (h_HutsError_BadNumber : PySem.W.subIn K (.ref C_HutsError) (.ref C_BadNumber) = some false)
    (h_BadNumber_BadNumber : PySem.W.subIn K (.ref C_BadNumber) (.ref C_BadNumber) = some true)
    (h_BadItem_BadNumber : PySem.W.subIn K (.ref C_BadItem) (.ref C_BadNumber) = some false)
    (h_TooMany_BadNumber : PySem.W.subIn K (.ref C_TooMany) (.ref C_BadNumber) = some false)
    (h_Unknown_BadNumber : PySem.W.subIn K (.ref C_Unknown) (.ref C_BadNumber) = some false)
    (h_Taken_BadNumber : PySem.W.subIn K (.ref C_Taken) (.ref C_BadNumber) = some false)
    (h_Walk_BadNumber : PySem.W.subIn K (.ref C_Walk) (.ref C_BadNumber) = some false)
    (h_HutsError_BadItem : PySem.W.subIn K (.ref C_HutsError) (.ref C_BadItem) = some false)
    (h_BadNumber_BadItem : PySem.W.subIn K (.ref C_BadNumber) (.ref C_BadItem) = some false)
    (h_BadItem_BadItem : PySem.W.subIn K (.ref C_BadItem) (.ref C_BadItem) = some true)
    (h_TooMany_BadItem : PySem.W.subIn K (.ref C_TooMany) (.ref C_BadItem) = some false)
    (h_Unknown_BadItem : PySem.W.subIn K (.ref C_Unknown) (.ref C_BadItem) = some false)
    (h_Taken_BadItem : PySem.W.subIn K (.ref C_Taken) (.ref C_BadItem) = some false)
    (h_Walk_BadItem : PySem.W.subIn K (.ref C_Walk) (.ref C_BadItem) = some false)
    (h_HutsError_TooMany : PySem.W.subIn K (.ref C_HutsError) (.ref C_TooMany) = some false)
    (h_BadNumber_TooMany : PySem.W.subIn K (.ref C_BadNumber) (.ref C_TooMany) = some false)
    (h_BadItem_TooMany : PySem.W.subIn K (.ref C_BadItem) (.ref C_TooMany) = some false)
    (h_TooMany_TooMany : PySem.W.subIn K (.ref C_TooMany) (.ref C_TooMany) = some true)
    (h_Unknown_TooMany : PySem.W.subIn K (.ref C_Unknown) (.ref C_TooMany) = some false)
    (h_Taken_TooMany : PySem.W.subIn K (.ref C_Taken) (.ref C_TooMany) = some false)
    (h_Walk_TooMany : PySem.W.subIn K (.ref C_Walk) (.ref C_TooMany) = some false)
    (h_HutsError_Unknown : PySem.W.subIn K (.ref C_HutsError) (.ref C_Unknown) = some false)
    (h_BadNumber_Unknown : PySem.W.subIn K (.ref C_BadNumber) (.ref C_Unknown) = some false)
    (h_BadItem_Unknown : PySem.W.subIn K (.ref C_BadItem) (.ref C_Unknown) = some false)
    (h_TooMany_Unknown : PySem.W.subIn K (.ref C_TooMany) (.ref C_Unknown) = some false)
    (h_Unknown_Unknown : PySem.W.subIn K (.ref C_Unknown) (.ref C_Unknown) = some true)
    (h_Taken_Unknown : PySem.W.subIn K (.ref C_Taken) (.ref C_Unknown) = some false)
    (h_Walk_Unknown : PySem.W.subIn K (.ref C_Walk) (.ref C_Unknown) = some false)
    (h_HutsError_Taken : PySem.W.subIn K (.ref C_HutsError) (.ref C_Taken) = some false)
    (h_BadNumber_Taken : PySem.W.subIn K (.ref C_BadNumber) (.ref C_Taken) = some false)
    (h_BadItem_Taken : PySem.W.subIn K (.ref C_BadItem) (.ref C_Taken) = some false)
    (h_TooMany_Taken : PySem.W.subIn K (.ref C_TooMany) (.ref C_Taken) = some false)
    (h_Unknown_Taken : PySem.W.subIn K (.ref C_Unknown) (.ref C_Taken) = some false)
    (h_Taken_Taken : PySem.W.subIn K (.ref C_Taken) (.ref C_Taken) = some true)
    (h_Walk_Taken : PySem.W.subIn K (.ref C_Walk) (.ref C_Taken) = some false)
    (a__law_taken : PySem.W.nsIn K mainGlobals "_law_taken" = some (some (.ref f__law_taken)))
    (l__law_taken : K.lookup f__law_taken = some ⟨oc__law_taken, od__law_taken, .func (PySem.W.fnOf "_law_taken" "_law_taken" (defArgs (top 24)) (defBody (top 24)) (defScope (top 24)) .none kV__law_taken dc__law_taken pm__law_taken an__law_taken cd__law_taken ct__law_taken), sl__law_taken⟩)
    (c__law_taken : PySem.W.codeIn K cd__law_taken "_law_taken" = true)
    (k__law_taken : PySem.W.keepIn K (.ref f__law_taken) = true)
    (a__law_pick : PySem.W.nsIn K mainGlobals "_law_pick" = some (some (.ref f__law_pick)))
    (l__law_pick : K.lookup f__law_pick = some ⟨oc__law_pick, od__law_pick, .func (PySem.W.fnOf "_law_pick" "_law_pick" (defArgs (top 25)) (defBody (top 25)) (defScope (top 25)) .none kV__law_pick dc__law_pick pm__law_pick an__law_pick cd__law_pick ct__law_pick), sl__law_pick⟩)
    (c__law_pick : PySem.W.codeIn K cd__law_pick "_law_pick" = true)
    (k__law_pick : PySem.W.keepIn K (.ref f__law_pick) = true)
    (a__law_name : PySem.W.nsIn K mainGlobals "_law_name" = some (some (.ref f__law_name)))
    (l__law_name : K.lookup f__law_name = some ⟨oc__law_name, od__law_name, .func (PySem.W.fnOf "_law_name" "_law_name" (defArgs (top 28)) (defBody (top 28)) (defScope (top 28)) .none kV__law_name dc__law_name pm__law_name an__law_name cd__law_name ct__law_name), sl__law_name⟩)
    (c__law_name : PySem.W.codeIn K cd__law_name "_law_name" = true)
    (k__law_name : PySem.W.keepIn K (.ref f__law_name) = true)
    (a__law_names : PySem.W.nsIn K mainGlobals "_law_names" = some (some (.ref f__law_names)))
    (l__law_names : K.lookup f__law_names = some ⟨oc__law_names, od__law_names, .func (PySem.W.fnOf "_law_names" "_law_names" (defArgs (top 29)) (defBody (top 29)) (defScope (top 29)) .none kV__law_names dc__law_names pm__law_names an__law_names cd__law_names ct__law_names), sl__law_names⟩)
    (c__law_names : PySem.W.codeIn K cd__law_names "_law_names" = true)
    (k__law_names : PySem.W.keepIn K (.ref f__law_names) = true)
    (a_is_whole : PySem.W.nsIn K mainGlobals "is_whole" = some (some (.ref f_is_whole)))
    (l_is_whole : K.lookup f_is_whole = some ⟨oc_is_whole, od_is_whole, .func (PySem.W.fnOf "is_whole" "is_whole" (defArgs (top 11)) (defBody (top 11)) (defScope (top 11)) .none kV_is_whole dc_is_whole pm_is_whole an_is_whole cd_is_whole ct_is_whole), sl_is_whole⟩)
    (c_is_whole : PySem.W.codeIn K cd_is_whole "is_whole" = true)
    (k_is_whole : PySem.W.keepIn K (.ref f_is_whole) = true)
    (a_is_number : PySem.W.nsIn K mainGlobals "is_number" = some (some (.ref f_is_number)))
    (l_is_number : K.lookup f_is_number = some ⟨oc_is_number, od_is_number, .func (PySem.W.fnOf "is_number" "is_number" (defArgs (top 12)) (defBody (top 12)) (defScope (top 12)) .none kV_is_number dc_is_number pm_is_number an_is_number cd_is_number ct_is_number), sl_is_number⟩)
    (c_is_number : PySem.W.codeIn K cd_is_number "is_number" = true)
    (k_is_number : PySem.W.keepIn K (.ref f_is_number) = true)
    (a_want_number : PySem.W.nsIn K mainGlobals "want_number" = some (some (.ref f_want_number)))
    (l_want_number : K.lookup f_want_number = some ⟨oc_want_number, od_want_number, .func (PySem.W.fnOf "want_number" "want_number" (defArgs (top 16)) (defBody (top 16)) (defScope (top 16)) .none kV_want_number dc_want_number pm_want_number an_want_number cd_want_number ct_want_number), sl_want_number⟩)
    (c_want_number : PySem.W.codeIn K cd_want_number "want_number" = true)
    (k_want_number : PySem.W.keepIn K (.ref f_want_number) = true)
    (a_frozen : PySem.W.nsIn K mainGlobals "frozen" = some (some (.ref f_frozen)))
    (l_frozen : K.lookup f_frozen = some ⟨oc_frozen, od_frozen, .func (PySem.W.fnOf "frozen" "frozen" (defArgs (top 15)) (defBody (top 15)) (defScope (top 15)) .none kV_frozen dc_frozen pm_frozen an_frozen cd_frozen ct_frozen), sl_frozen⟩)
    (c_frozen : PySem.W.codeIn K cd_frozen "frozen" = true)
    (k_frozen : PySem.W.keepIn K (.ref f_frozen) = true)
    (a_is_row : PySem.W.nsIn K mainGlobals "is_row" = some (some (.ref f_is_row)))
    (l_is_row : K.lookup f_is_row = some ⟨oc_is_row, od_is_row, .func (PySem.W.fnOf "is_row" "is_row" (defArgs (top 13)) (defBody (top 13)) (defScope (top 13)) .none kV_is_row dc_is_row pm_is_row an_is_row cd_is_row ct_is_row), sl_is_row⟩)
    (c_is_row : PySem.W.codeIn K cd_is_row "is_row" = true)
    (k_is_row : PySem.W.keepIn K (.ref f_is_row) = true)
    (a_is_name : PySem.W.nsIn K mainGlobals "is_name" = some (some (.ref f_is_name)))
    (l_is_name : K.lookup f_is_name = some ⟨oc_is_name, od_is_name, .func (PySem.W.fnOf "is_name" "is_name" (defArgs (top 14)) (defBody (top 14)) (defScope (top 14)) .none kV_is_name dc_is_name pm_is_name an_is_name cd_is_name ct_is_name), sl_is_name⟩)
    (c_is_name : PySem.W.codeIn K cd_is_name "is_name" = true)
    (k_is_name : PySem.W.keepIn K (.ref f_is_name) = true)
    (a_is_leg : PySem.W.nsIn K mainGlobals "is_leg" = some (some (.ref f_is_leg)))
    (l_is_leg : K.lookup f_is_leg = some ⟨oc_is_leg, od_is_leg, .func (PySem.W.fnOf "is_leg" "is_leg" (defArgs (top 20)) (defBody (top 20)) (defScope (top 20)) .none kV_is_leg dc_is_leg pm_is_leg an_is_leg cd_is_leg ct_is_leg), sl_is_leg⟩)
    (c_is_leg : PySem.W.codeIn K cd_is_leg "is_leg" = true)
    (k_is_leg : PySem.W.keepIn K (.ref f_is_leg) = true)
    (a_want_row : PySem.W.nsIn K mainGlobals "want_row" = some (some (.ref f_want_row)))
    (l_want_row : K.lookup f_want_row = some ⟨oc_want_row, od_want_row, .func (PySem.W.fnOf "want_row" "want_row" (defArgs (top 17)) (defBody (top 17)) (defScope (top 17)) .none kV_want_row dc_want_row pm_want_row an_want_row cd_want_row ct_want_row), sl_want_row⟩)
    (c_want_row : PySem.W.codeIn K cd_want_row "want_row" = true)
    (k_want_row : PySem.W.keepIn K (.ref f_want_row) = true)
    (a_Walk_init : PySem.W.findIn K (.ref C_Walk) "__init__" = some (some (.ref f_Walk_init)))
    (i_Walk_init : PySem.W.isFn K (.ref f_Walk_init) = true)
    (l_Walk_init : K.lookup f_Walk_init = some ⟨oc_Walk_init, od_Walk_init, .func (PySem.W.fnOf "__init__" "Walk.__init__" (defArgs (inClass (top 21) 0)) (defBody (inClass (top 21) 0)) (defScope (inClass (top 21) 0)) .none kV_Walk_init dc_Walk_init pm_Walk_init an_Walk_init cd_Walk_init ct_Walk_init), sl_Walk_init⟩)
    (c_Walk_init : PySem.W.codeIn K cd_Walk_init "Walk.__init__" = true)
    (k_Walk_init : PySem.W.keepIn K (.ref f_Walk_init) = true)
    (a_Walk_eq : PySem.W.findIn K (.ref C_Walk) "__eq__" = some (some (.ref f_Walk_eq)))
    (i_Walk_eq : PySem.W.isFn K (.ref f_Walk_eq) = true)
    (l_Walk_eq : K.lookup f_Walk_eq = some ⟨oc_Walk_eq, od_Walk_eq, .func (PySem.W.fnOf "__eq__" "Walk.__eq__" (defArgs (inClass (top 21) 1)) (defBody (inClass (top 21) 1)) (defScope (inClass (top 21) 1)) .none kV_Walk_eq dc_Walk_eq pm_Walk_eq an_Walk_eq cd_Walk_eq ct_Walk_eq), sl_Walk_eq⟩)
    (c_Walk_eq : PySem.W.codeIn K cd_Walk_eq "Walk.__eq__" = true)
    (k_Walk_eq : PySem.W.keepIn K (.ref f_Walk_eq) = true)
    (a_Walk_place : PySem.W.findIn K (.ref C_Walk) "place" = some (some (.ref f_Walk_place)))
    (i_Walk_place : PySem.W.isFn K (.ref f_Walk_place) = true)
    (l_Walk_place : K.lookup f_Walk_place = some ⟨oc_Walk_place, od_Walk_place, .func (PySem.W.fnOf "place" "Walk.place" (defArgs (inClass (top 21) 2)) (defBody (inClass (top 21) 2)) (defScope (inClass (top 21) 2)) .none kV_Walk_place dc_Walk_place pm_Walk_place an_Walk_place cd_Walk_place ct_Walk_place), sl_Walk_place⟩)
    (c_Walk_place : PySem.W.codeIn K cd_Walk_place "Walk.place" = true)
    (k_Walk_place : PySem.W.keepIn K (.ref f_Walk_place) = true)
    (a_Walk_back : PySem.W.findIn K (.ref C_Walk) "back" = some (some (.ref f_Walk_back)))
    (i_Walk_back : PySem.W.isFn K (.ref f_Walk_back) = true)
    (l_Walk_back : K.lookup f_Walk_back = some ⟨oc_Walk_back, od_Walk_back, .func (PySem.W.fnOf "back" "Walk.back" (defArgs (inClass (top 21) 4)) (defBody (inClass (top 21) 4)) (defScope (inClass (top 21) 4)) .none kV_Walk_back dc_Walk_back pm_Walk_back an_Walk_back cd_Walk_back ct_Walk_back), sl_Walk_back⟩)
    (c_Walk_back : PySem.W.codeIn K cd_Walk_back "Walk.back" = true)
    (k_Walk_back : PySem.W.keepIn K (.ref f_Walk_back) = true)
    (a_Walk_turn_at : PySem.W.findIn K (.ref C_Walk) "turn_at" = some (some (.ref f_Walk_turn_at)))
    (i_Walk_turn_at : PySem.W.isFn K (.ref f_Walk_turn_at) = true)
    (l_Walk_turn_at : K.lookup f_Walk_turn_at = some ⟨oc_Walk_turn_at, od_Walk_turn_at, .func (PySem.W.fnOf "turn_at" "Walk.turn_at" (defArgs (inClass (top 21) 5)) (defBody (inClass (top 21) 5)) (defScope (inClass (top 21) 5)) .none kV_Walk_turn_at dc_Walk_turn_at pm_Walk_turn_at an_Walk_turn_at cd_Walk_turn_at ct_Walk_turn_at), sl_Walk_turn_at⟩)
    (c_Walk_turn_at : PySem.W.codeIn K cd_Walk_turn_at "Walk.turn_at" = true)
    (k_Walk_turn_at : PySem.W.keepIn K (.ref f_Walk_turn_at) = true)
    (a_Walk_arrives : PySem.W.findIn K (.ref C_Walk) "arrives" = some (some (.ref f_Walk_arrives)))
    (i_Walk_arrives : PySem.W.isFn K (.ref f_Walk_arrives) = true)
    (l_Walk_arrives : K.lookup f_Walk_arrives = some ⟨oc_Walk_arrives, od_Walk_arrives, .func (PySem.W.fnOf "arrives" "Walk.arrives" (defArgs (inClass (top 21) 3)) (defBody (inClass (top 21) 3)) (defScope (inClass (top 21) 3)) .none kV_Walk_arrives dc_Walk_arrives pm_Walk_arrives an_Walk_arrives cd_Walk_arrives ct_Walk_arrives), sl_Walk_arrives⟩)
    (c_Walk_arrives : PySem.W.codeIn K cd_Walk_arrives "Walk.arrives" = true)
    (k_Walk_arrives : PySem.W.keepIn K (.ref f_Walk_arrives) = true)
    (a_Walk_surely_back : PySem.W.findIn K (.ref C_Walk) "surely_back" = some (some (.ref f_Walk_surely_back)))
    (i_Walk_surely_back : PySem.W.isFn K (.ref f_Walk_surely_back) = true)
    (l_Walk_surely_back : K.lookup f_Walk_surely_back = some ⟨oc_Walk_surely_back, od_Walk_surely_back, .func (PySem.W.fnOf "surely_back" "Walk.surely_back" (defArgs (inClass (top 21) 6)) (defBody (inClass (top 21) 6)) (defScope (inClass (top 21) 6)) .none kV_Walk_surely_back dc_Walk_surely_back pm_Walk_surely_back an_Walk_surely_back cd_Walk_surely_back ct_Walk_surely_back), sl_Walk_surely_back⟩)
    (c_Walk_surely_back : PySem.W.codeIn K cd_Walk_surely_back "Walk.surely_back" = true)
    (k_Walk_surely_back : PySem.W.keepIn K (.ref f_Walk_surely_back) = true)
    (a_Walk_farthest_sure : PySem.W.findIn K (.ref C_Walk) "farthest_sure" = some (some (.ref f_Walk_farthest_sure)))
    (i_Walk_farthest_sure : PySem.W.isFn K (.ref f_Walk_farthest_sure) = true)
    (l_Walk_farthest_sure : K.lookup f_Walk_farthest_sure = some ⟨oc_Walk_farthest_sure, od_Walk_farthest_sure, .func (PySem.W.fnOf "farthest_sure" "Walk.farthest_sure" (defArgs (inClass (top 21) 8)) (defBody (inClass (top 21) 8)) (defScope (inClass (top 21) 8)) .none kV_Walk_farthest_sure dc_Walk_farthest_sure pm_Walk_farthest_sure an_Walk_farthest_sure cd_Walk_farthest_sure ct_Walk_farthest_sure), sl_Walk_farthest_sure⟩)
    (c_Walk_farthest_sure : PySem.W.codeIn K cd_Walk_farthest_sure "Walk.farthest_sure" = true)
    (k_Walk_farthest_sure : PySem.W.keepIn K (.ref f_Walk_farthest_sure) = true)
    (a__law_some : PySem.W.nsIn K mainGlobals "_law_some" = some (some (.ref f__law_some)))
    (l__law_some : K.lookup f__law_some = some ⟨oc__law_some, od__law_some, .func (PySem.W.fnOf "_law_some" "_law_some" (defArgs (top 34)) (defBody (top 34)) (defScope (top 34)) .none kV__law_some dc__law_some pm__law_some an__law_some cd__law_some ct__law_some), sl__law_some⟩)
    (c__law_some : PySem.W.codeIn K cd__law_some "_law_some" = true)
    (k__law_some : PySem.W.keepIn K (.ref f__law_some) = true)
    (a__law_truth : PySem.W.nsIn K mainGlobals "_law_truth" = some (some (.ref f__law_truth)))
    (l__law_truth : K.lookup f__law_truth = some ⟨oc__law_truth, od__law_truth, .func (PySem.W.fnOf "_law_truth" "_law_truth" (defArgs (top 30)) (defBody (top 30)) (defScope (top 30)) .none kV__law_truth dc__law_truth pm__law_truth an__law_truth cd__law_truth ct__law_truth), sl__law_truth⟩)
    (c__law_truth : PySem.W.codeIn K cd__law_truth "_law_truth" = true)
    (k__law_truth : PySem.W.keepIn K (.ref f__law_truth) = true)
    (a_Walk_can_be : PySem.W.findIn K (.ref C_Walk) "can_be" = some (some (.ref f_Walk_can_be)))
    (i_Walk_can_be : PySem.W.isFn K (.ref f_Walk_can_be) = true)
    (l_Walk_can_be : K.lookup f_Walk_can_be = some ⟨oc_Walk_can_be, od_Walk_can_be, .func (PySem.W.fnOf "can_be" "Walk.can_be" (defArgs (inClass (top 21) 12)) (defBody (inClass (top 21) 12)) (defScope (inClass (top 21) 12)) .none kV_Walk_can_be dc_Walk_can_be pm_Walk_can_be an_Walk_can_be cd_Walk_can_be ct_Walk_can_be), sl_Walk_can_be⟩)
    (c_Walk_can_be : PySem.W.codeIn K cd_Walk_can_be "Walk.can_be" = true)
    (k_Walk_can_be : PySem.W.keepIn K (.ref f_Walk_can_be) = true)
    (a_Walk_must_turn : PySem.W.findIn K (.ref C_Walk) "must_turn" = some (some (.ref f_Walk_must_turn)))
    (i_Walk_must_turn : PySem.W.isFn K (.ref f_Walk_must_turn) = true)
    (l_Walk_must_turn : K.lookup f_Walk_must_turn = some ⟨oc_Walk_must_turn, od_Walk_must_turn, .func (PySem.W.fnOf "must_turn" "Walk.must_turn" (defArgs (inClass (top 21) 11)) (defBody (inClass (top 21) 11)) (defScope (inClass (top 21) 11)) .none kV_Walk_must_turn dc_Walk_must_turn pm_Walk_must_turn an_Walk_must_turn cd_Walk_must_turn ct_Walk_must_turn), sl_Walk_must_turn⟩)
    (c_Walk_must_turn : PySem.W.codeIn K cd_Walk_must_turn "Walk.must_turn" = true)
    (k_Walk_must_turn : PySem.W.keepIn K (.ref f_Walk_must_turn) = true)
    (a_Walk_slower : PySem.W.findIn K (.ref C_Walk) "slower" = some (some (.ref f_Walk_slower)))
    (i_Walk_slower : PySem.W.isFn K (.ref f_Walk_slower) = true)
    (l_Walk_slower : K.lookup f_Walk_slower = some ⟨oc_Walk_slower, od_Walk_slower, .func (PySem.W.fnOf "slower" "Walk.slower" (defArgs (inClass (top 21) 16)) (defBody (inClass (top 21) 16)) (defScope (inClass (top 21) 16)) .none kV_Walk_slower dc_Walk_slower pm_Walk_slower an_Walk_slower cd_Walk_slower ct_Walk_slower), sl_Walk_slower⟩)
    (c_Walk_slower : PySem.W.codeIn K cd_Walk_slower "Walk.slower" = true)
    (k_Walk_slower : PySem.W.keepIn K (.ref f_Walk_slower) = true)
    (a_Walk_later : PySem.W.findIn K (.ref C_Walk) "later" = some (some (.ref f_Walk_later)))
    (i_Walk_later : PySem.W.isFn K (.ref f_Walk_later) = true)
    (l_Walk_later : K.lookup f_Walk_later = some ⟨oc_Walk_later, od_Walk_later, .func (PySem.W.fnOf "later" "Walk.later" (defArgs (inClass (top 21) 15)) (defBody (inClass (top 21) 15)) (defScope (inClass (top 21) 15)) .none kV_Walk_later dc_Walk_later pm_Walk_later an_Walk_later cd_Walk_later ct_Walk_later), sl_Walk_later⟩)
    (c_Walk_later : PySem.W.codeIn K cd_Walk_later "Walk.later" = true)
    (k_Walk_later : PySem.W.keepIn K (.ref f_Walk_later) = true)
    (a__law_seen : PySem.W.nsIn K mainGlobals "_law_seen" = some (some (.ref f__law_seen)))
    (l__law_seen : K.lookup f__law_seen = some ⟨oc__law_seen, od__law_seen, .func (PySem.W.fnOf "_law_seen" "_law_seen" (defArgs (top 36)) (defBody (top 36)) (defScope (top 36)) .none kV__law_seen dc__law_seen pm__law_seen an__law_seen cd__law_seen ct__law_seen), sl__law_seen⟩)
    (c__law_seen : PySem.W.codeIn K cd__law_seen "_law_seen" = true)
    (k__law_seen : PySem.W.keepIn K (.ref f__law_seen) = true)
    (a__law_strange : PySem.W.nsIn K mainGlobals "_law_strange" = some (some (.ref f__law_strange)))
    (l__law_strange : K.lookup f__law_strange = some ⟨oc__law_strange, od__law_strange, .func (PySem.W.fnOf "_law_strange" "_law_strange" (defArgs (top 31)) (defBody (top 31)) (defScope (top 31)) .none kV__law_strange dc__law_strange pm__law_strange an__law_strange cd__law_strange ct__law_strange), sl__law_strange⟩)
    (c__law_strange : PySem.W.codeIn K cd__law_strange "_law_strange" = true)
    (k__law_strange : PySem.W.keepIn K (.ref f__law_strange) = true)
    (a_want_minute : PySem.W.nsIn K mainGlobals "want_minute" = some (some (.ref f_want_minute)))
    (l_want_minute : K.lookup f_want_minute = some ⟨oc_want_minute, od_want_minute, .func (PySem.W.fnOf "want_minute" "want_minute" (defArgs (top 22)) (defBody (top 22)) (defScope (top 22)) .none kV_want_minute dc_want_minute pm_want_minute an_want_minute cd_want_minute ct_want_minute), sl_want_minute⟩)
    (c_want_minute : PySem.W.codeIn K cd_want_minute "want_minute" = true)
    (k_want_minute : PySem.W.keepIn K (.ref f_want_minute) = true)
    (a__law_whole : PySem.W.nsIn K mainGlobals "_law_whole" = some (some (.ref f__law_whole)))
    (l__law_whole : K.lookup f__law_whole = some ⟨oc__law_whole, od__law_whole, .func (PySem.W.fnOf "_law_whole" "_law_whole" (defArgs (top 33)) (defBody (top 33)) (defScope (top 33)) .none kV__law_whole dc__law_whole pm__law_whole an__law_whole cd__law_whole ct__law_whole), sl__law_whole⟩)
    (c__law_whole : PySem.W.codeIn K cd__law_whole "_law_whole" = true)
    (k__law_whole : PySem.W.keepIn K (.ref f__law_whole) = true)
    (a__law_refused_row : PySem.W.nsIn K mainGlobals "_law_refused_row" = some (some (.ref f__law_refused_row)))
    (l__law_refused_row : K.lookup f__law_refused_row = some ⟨oc__law_refused_row, od__law_refused_row, .func (PySem.W.fnOf "_law_refused_row" "_law_refused_row" (defArgs (top 32)) (defBody (top 32)) (defScope (top 32)) .none kV__law_refused_row dc__law_refused_row pm__law_refused_row an__law_refused_row cd__law_refused_row ct__law_refused_row), sl__law_refused_row⟩)
    (c__law_refused_row : PySem.W.codeIn K cd__law_refused_row "_law_refused_row" = true)
    (k__law_refused_row : PySem.W.keepIn K (.ref f__law_refused_row) = true)
    (a__law_raised : PySem.W.nsIn K mainGlobals "_law_raised" = some (some (.ref f__law_raised)))
    (l__law_raised : K.lookup f__law_raised = some ⟨oc__law_raised, od__law_raised, .func (PySem.W.fnOf "_law_raised" "_law_raised" (defArgs (top 35)) (defBody (top 35)) (defScope (top 35)) .none kV__law_raised dc__law_raised pm__law_raised an__law_raised cd__law_raised ct__law_raised), sl__law_raised⟩)
    (c__law_raised : PySem.W.codeIn K cd__law_raised "_law_raised" = true)
    (k__law_raised : PySem.W.keepIn K (.ref f__law_raised) = true)
    (a__law_refused : PySem.W.nsIn K mainGlobals "_law_refused" = some (some (.ref f__law_refused)))
    (l__law_refused : K.lookup f__law_refused = some ⟨oc__law_refused, od__law_refused, .func (PySem.W.fnOf "_law_refused" "_law_refused" (defArgs (top 37)) (defBody (top 37)) (defScope (top 37)) .none kV__law_refused dc__law_refused pm__law_refused an__law_refused cd__law_refused ct__law_refused), sl__law_refused⟩)
    (c__law_refused : PySem.W.codeIn K cd__law_refused "_law_refused" = true)
    (k__law_refused : PySem.W.keepIn K (.ref f__law_refused) = true)
    (a__law_mixed : PySem.W.nsIn K mainGlobals "_law_mixed" = some (some (.ref f__law_mixed)))
    (l__law_mixed : K.lookup f__law_mixed = some ⟨oc__law_mixed, od__law_mixed, .func (PySem.W.fnOf "_law_mixed" "_law_mixed" (defArgs (top 27)) (defBody (top 27)) (defScope (top 27)) .none kV__law_mixed dc__law_mixed pm__law_mixed an__law_mixed cd__law_mixed ct__law_mixed), sl__law_mixed⟩)
    (c__law_mixed : PySem.W.codeIn K cd__law_mixed "_law_mixed" = true)
    (k__law_mixed : PySem.W.keepIn K (.ref f__law_mixed) = true)
    (a__law_alike : PySem.W.nsIn K mainGlobals "_law_alike" = some (some (.ref f__law_alike)))
    (l__law_alike : K.lookup f__law_alike = some ⟨oc__law_alike, od__law_alike, .func (PySem.W.fnOf "_law_alike" "_law_alike" (defArgs (top 26)) (defBody (top 26)) (defScope (top 26)) .none kV__law_alike dc__law_alike pm__law_alike an__law_alike cd__law_alike ct__law_alike), sl__law_alike⟩)
    (c__law_alike : PySem.W.codeIn K cd__law_alike "_law_alike" = true)
    (k__law_alike : PySem.W.keepIn K (.ref f__law_alike) = true)
    (a_Walk_next_bounds : PySem.W.findIn K (.ref C_Walk) "next_bounds" = some (some (.ref f_Walk_next_bounds)))
    (i_Walk_next_bounds : PySem.W.isFn K (.ref f_Walk_next_bounds) = true)
    (l_Walk_next_bounds : K.lookup f_Walk_next_bounds = some ⟨oc_Walk_next_bounds, od_Walk_next_bounds, .func (PySem.W.fnOf "next_bounds" "Walk.next_bounds" (defArgs (inClass (top 21) 13)) (defBody (inClass (top 21) 13)) (defScope (inClass (top 21) 13)) .none kV_Walk_next_bounds dc_Walk_next_bounds pm_Walk_next_bounds an_Walk_next_bounds cd_Walk_next_bounds ct_Walk_next_bounds), sl_Walk_next_bounds⟩)
    (c_Walk_next_bounds : PySem.W.codeIn K cd_Walk_next_bounds "Walk.next_bounds" = true)
    (k_Walk_next_bounds : PySem.W.keepIn K (.ref f_Walk_next_bounds) = true)
    (a_Walk_may_be_back : PySem.W.findIn K (.ref C_Walk) "may_be_back" = some (some (.ref f_Walk_may_be_back)))
    (i_Walk_may_be_back : PySem.W.isFn K (.ref f_Walk_may_be_back) = true)
    (l_Walk_may_be_back : K.lookup f_Walk_may_be_back = some ⟨oc_Walk_may_be_back, od_Walk_may_be_back, .func (PySem.W.fnOf "may_be_back" "Walk.may_be_back" (defArgs (inClass (top 21) 7)) (defBody (inClass (top 21) 7)) (defScope (inClass (top 21) 7)) .none kV_Walk_may_be_back dc_Walk_may_be_back pm_Walk_may_be_back an_Walk_may_be_back cd_Walk_may_be_back ct_Walk_may_be_back), sl_Walk_may_be_back⟩)
    (c_Walk_may_be_back : PySem.W.codeIn K cd_Walk_may_be_back "Walk.may_be_back" = true)
    (k_Walk_may_be_back : PySem.W.keepIn K (.ref f_Walk_may_be_back) = true)
    (a_Walk_rest_at : PySem.W.findIn K (.ref C_Walk) "rest_at" = some (some (.ref f_Walk_rest_at)))
    (i_Walk_rest_at : PySem.W.isFn K (.ref f_Walk_rest_at) = true)
    (l_Walk_rest_at : K.lookup f_Walk_rest_at = some ⟨oc_Walk_rest_at, od_Walk_rest_at, .func (PySem.W.fnOf "rest_at" "Walk.rest_at" (defArgs (inClass (top 21) 10)) (defBody (inClass (top 21) 10)) (defScope (inClass (top 21) 10)) .none kV_Walk_rest_at dc_Walk_rest_at pm_Walk_rest_at an_Walk_rest_at cd_Walk_rest_at ct_Walk_rest_at), sl_Walk_rest_at⟩)
    (c_Walk_rest_at : PySem.W.codeIn K cd_Walk_rest_at "Walk.rest_at" = true)
    (k_Walk_rest_at : PySem.W.keepIn K (.ref f_Walk_rest_at) = true)
    (a_Walk_latest_begin : PySem.W.findIn K (.ref C_Walk) "latest_begin" = some (some (.ref f_Walk_latest_begin)))
    (i_Walk_latest_begin : PySem.W.isFn K (.ref f_Walk_latest_begin) = true)
    (l_Walk_latest_begin : K.lookup f_Walk_latest_begin = some ⟨oc_Walk_latest_begin, od_Walk_latest_begin, .func (PySem.W.fnOf "latest_begin" "Walk.latest_begin" (defArgs (inClass (top 21) 14)) (defBody (inClass (top 21) 14)) (defScope (inClass (top 21) 14)) .none kV_Walk_latest_begin dc_Walk_latest_begin pm_Walk_latest_begin an_Walk_latest_begin cd_Walk_latest_begin ct_Walk_latest_begin), sl_Walk_latest_begin⟩)
    (c_Walk_latest_begin : PySem.W.codeIn K cd_Walk_latest_begin "Walk.latest_begin" = true)
    (k_Walk_latest_begin : PySem.W.keepIn K (.ref f_Walk_latest_begin) = true)
    (a_Walk_go_on : PySem.W.findIn K (.ref C_Walk) "go_on" = some (some (.ref f_Walk_go_on)))
    (i_Walk_go_on : PySem.W.isFn K (.ref f_Walk_go_on) = true)
    (l_Walk_go_on : K.lookup f_Walk_go_on = some ⟨oc_Walk_go_on, od_Walk_go_on, .func (PySem.W.fnOf "go_on" "Walk.go_on" (defArgs (inClass (top 21) 9)) (defBody (inClass (top 21) 9)) (defScope (inClass (top 21) 9)) .none kV_Walk_go_on dc_Walk_go_on pm_Walk_go_on an_Walk_go_on cd_Walk_go_on ct_Walk_go_on), sl_Walk_go_on⟩)
    (c_Walk_go_on : PySem.W.codeIn K cd_Walk_go_on "Walk.go_on" = true)
    (k_Walk_go_on : PySem.W.keepIn K (.ref f_Walk_go_on) = true)
    (a_law : PySem.W.nsIn K mainGlobals "law" = some (some (.ref f_law)))
    (l_law : K.lookup f_law = some ⟨oc_law, od_law, .func (PySem.W.fnOf "law" "law" (defArgs (top 38)) (defBody (top 38)) (defScope (top 38)) .none kV_law dc_law pm_law an_law cd_law ct_law), sl_law⟩)
    (c_law : PySem.W.codeIn K cd_law "law" = true)
    (k_law : PySem.W.keepIn K (.ref f_law) = true) :
    ∃ fd : FuncData, (∀ (s : Shared) (v : Value), BindsTo s fd ⟨[v], []⟩ [("script", v)]) ∧ ∀ base : Heap, K.In base → base.Ns mainGlobals mg → FnG PySem.Challenge.pw_huttohut_k15_whole_turns w K mg base 11 fa fd ["script"] (spLaw K) := by
  have e := hfa.symm.trans (PySem.W.mg_of X G a_law)
  cases e
  have T : Txt K mg (clsOf [C_HutsError, C_BadNumber, C_BadItem, C_TooMany, C_Unknown, C_Taken, C_Walk]) (clsOf [f_is_leg]) := ⟨PySem.W.mg_none_of X G z_all_,
    PySem.W.mg_none_of X G z_bool_,
    PySem.W.mg_none_of X G z_enumerate,
    PySem.W.mg_none_of X G z_int_,
    PySem.W.mg_none_of X G z_isinstance,
    PySem.W.mg_none_of X G z_len,
    PySem.W.mg_none_of X G z_list,
    PySem.W.mg_none_of X G z_range,
    PySem.W.mg_none_of X G z_repr,
    PySem.W.mg_none_of X G z_str_,
    PySem.W.mg_none_of X G z_sum,
    PySem.W.mg_none_of X G z_tuple,
    ⟨gt_FIGURES, PySem.W.mg_of X G g_FIGURES⟩,
    ⟨gt_LETTERS, PySem.W.mg_of X G g_LETTERS⟩,
    ⟨gt_LONGEST_NAME, PySem.W.mg_of X G g_LONGEST_NAME⟩,
    ⟨gt_MOST_POINTS, PySem.W.mg_of X G g_MOST_POINTS⟩,
    PySem.W.mg_of X G a_BadNumber,
    ⟨x1_BadNumber, x2_BadNumber, e_BadNumber, x4_BadNumber⟩,
    n_BadNumber_value,
    fun C hC => by
    have z : C = 0 ∨ C = 1 ∨ C = 2 ∨ C = 3 ∨ C = 4 ∨ C = 5 ∨ C = 6 := by omega
    rcases z with rfl | rfl | rfl | rfl | rfl | rfl | rfl
    · exact PySem.W.exm_ref e_BadNumber x4_BadNumber t_BadNumber h_HutsError_BadNumber
    · exact PySem.W.exm_ref e_BadNumber x4_BadNumber t_BadNumber h_BadNumber_BadNumber
    · exact PySem.W.exm_ref e_BadNumber x4_BadNumber t_BadNumber h_BadItem_BadNumber
    · exact PySem.W.exm_ref e_BadNumber x4_BadNumber t_BadNumber h_TooMany_BadNumber
    · exact PySem.W.exm_ref e_BadNumber x4_BadNumber t_BadNumber h_Unknown_BadNumber
    · exact PySem.W.exm_ref e_BadNumber x4_BadNumber t_BadNumber h_Taken_BadNumber
    · exact PySem.W.exm_ref e_BadNumber x4_BadNumber t_BadNumber h_Walk_BadNumber,
    PySem.W.mg_of X G a_BadItem,
    ⟨x1_BadItem, x2_BadItem, e_BadItem, x4_BadItem⟩,
    n_BadItem_index,
    fun C hC => by
    have z : C = 0 ∨ C = 1 ∨ C = 2 ∨ C = 3 ∨ C = 4 ∨ C = 5 ∨ C = 6 := by omega
    rcases z with rfl | rfl | rfl | rfl | rfl | rfl | rfl
    · exact PySem.W.exm_ref e_BadItem x4_BadItem t_BadItem h_HutsError_BadItem
    · exact PySem.W.exm_ref e_BadItem x4_BadItem t_BadItem h_BadNumber_BadItem
    · exact PySem.W.exm_ref e_BadItem x4_BadItem t_BadItem h_BadItem_BadItem
    · exact PySem.W.exm_ref e_BadItem x4_BadItem t_BadItem h_TooMany_BadItem
    · exact PySem.W.exm_ref e_BadItem x4_BadItem t_BadItem h_Unknown_BadItem
    · exact PySem.W.exm_ref e_BadItem x4_BadItem t_BadItem h_Taken_BadItem
    · exact PySem.W.exm_ref e_BadItem x4_BadItem t_BadItem h_Walk_BadItem,
    PySem.W.mg_of X G a_TooMany,
    ⟨x1_TooMany, x2_TooMany, e_TooMany, x4_TooMany⟩,
    n_TooMany_limit,
    fun C hC => by
    have z : C = 0 ∨ C = 1 ∨ C = 2 ∨ C = 3 ∨ C = 4 ∨ C = 5 ∨ C = 6 := by omega
    rcases z with rfl | rfl | rfl | rfl | rfl | rfl | rfl
    · exact PySem.W.exm_ref e_TooMany x4_TooMany t_TooMany h_HutsError_TooMany
    · exact PySem.W.exm_ref e_TooMany x4_TooMany t_TooMany h_BadNumber_TooMany
    · exact PySem.W.exm_ref e_TooMany x4_TooMany t_TooMany h_BadItem_TooMany
    · exact PySem.W.exm_ref e_TooMany x4_TooMany t_TooMany h_TooMany_TooMany
    · exact PySem.W.exm_ref e_TooMany x4_TooMany t_TooMany h_Unknown_TooMany
    · exact PySem.W.exm_ref e_TooMany x4_TooMany t_TooMany h_Taken_TooMany
    · exact PySem.W.exm_ref e_TooMany x4_TooMany t_TooMany h_Walk_TooMany,
    PySem.W.mg_of X G a_Unknown,
    ⟨x1_Unknown, x2_Unknown, e_Unknown, x4_Unknown⟩,
    n_Unknown_value,
    fun C hC => by
    have z : C = 0 ∨ C = 1 ∨ C = 2 ∨ C = 3 ∨ C = 4 ∨ C = 5 ∨ C = 6 := by omega
    rcases z with rfl | rfl | rfl | rfl | rfl | rfl | rfl
    · exact PySem.W.exm_ref e_Unknown x4_Unknown t_Unknown h_HutsError_Unknown
    · exact PySem.W.exm_ref e_Unknown x4_Unknown t_Unknown h_BadNumber_Unknown
    · exact PySem.W.exm_ref e_Unknown x4_Unknown t_Unknown h_BadItem_Unknown
    · exact PySem.W.exm_ref e_Unknown x4_Unknown t_Unknown h_TooMany_Unknown
    · exact PySem.W.exm_ref e_Unknown x4_Unknown t_Unknown h_Unknown_Unknown
    · exact PySem.W.exm_ref e_Unknown x4_Unknown t_Unknown h_Taken_Unknown
    · exact PySem.W.exm_ref e_Unknown x4_Unknown t_Unknown h_Walk_Unknown,
    PySem.W.mg_of X G a_Taken,
    ⟨x1_Taken, x2_Taken, e_Taken, x4_Taken⟩,
    n_Taken_value,
    fun C hC => by
    have z : C = 0 ∨ C = 1 ∨ C = 2 ∨ C = 3 ∨ C = 4 ∨ C = 5 ∨ C = 6 := by omega
    rcases z with rfl | rfl | rfl | rfl | rfl | rfl | rfl
    · exact PySem.W.exm_ref e_Taken x4_Taken t_Taken h_HutsError_Taken
    · exact PySem.W.exm_ref e_Taken x4_Taken t_Taken h_BadNumber_Taken
    · exact PySem.W.exm_ref e_Taken x4_Taken t_Taken h_BadItem_Taken
    · exact PySem.W.exm_ref e_Taken x4_Taken t_Taken h_TooMany_Taken
    · exact PySem.W.exm_ref e_Taken x4_Taken t_Taken h_Unknown_Taken
    · exact PySem.W.exm_ref e_Taken x4_Taken t_Taken h_Taken_Taken
    · exact PySem.W.exm_ref e_Taken x4_Taken t_Taken h_Walk_Taken,
    PySem.W.mg_of X G a_Walk,
    ⟨⟨pg_Walk, hd_Walk, po_Walk, sa_Walk⟩, ha_Walk, hnG, htG, hm_Walk, Option.isSome_iff_exists.mpr ⟨_, hc_Walk⟩, ty_Walk⟩,
    ne_Walk,
    na_Walk_begin,
    na_Walk_dark,
    na_Walk_legs,
    PySem.W.mg_of X G a_is_leg⟩
  have A__law_taken : At K mg "_law_taken" (top 24) ["row", "many"] := at_mk X G a__law_taken l__law_taken c__law_taken k__law_taken fun _ _ _ _ _ _ us hl => match us, hl with | [_, _], _ => rfl
  have A__law_pick : At K mg "_law_pick" (top 25) ["row", "kinds"] := at_mk X G a__law_pick l__law_pick c__law_pick k__law_pick fun _ _ _ _ _ _ us hl => match us, hl with | [_, _], _ => rfl
  have A__law_name : At K mg "_law_name" (top 28) ["row"] := at_mk X G a__law_name l__law_name c__law_name k__law_name fun _ _ _ _ _ _ us hl => match us, hl with | [_], _ => rfl
  have A__law_names : At K mg "_law_names" (top 29) ["row", "many"] := at_mk X G a__law_names l__law_names c__law_names k__law_names fun _ _ _ _ _ _ us hl => match us, hl with | [_, _], _ => rfl
  have A_is_whole : At K mg "is_whole" (top 11) ["value"] := at_mk X G a_is_whole l_is_whole c_is_whole k_is_whole fun _ _ _ _ _ _ us hl => match us, hl with | [_], _ => rfl
  have A_is_number : At K mg "is_number" (top 12) ["value", "least", "most"] := at_mk X G a_is_number l_is_number c_is_number k_is_number fun _ _ _ _ _ _ us hl => match us, hl with | [_, _, _], _ => rfl
  have A_want_number : At K mg "want_number" (top 16) ["value", "least", "most"] := at_mk X G a_want_number l_want_number c_want_number k_want_number fun _ _ _ _ _ _ us hl => match us, hl with | [_, _, _], _ => rfl
  have A_frozen : At K mg "frozen" (top 15) ["value"] := at_mk X G a_frozen l_frozen c_frozen k_frozen fun _ _ _ _ _ _ us hl => match us, hl with | [_], _ => rfl
  have A_is_row : At K mg "is_row" (top 13) ["value"] := at_mk X G a_is_row l_is_row c_is_row k_is_row fun _ _ _ _ _ _ us hl => match us, hl with | [_], _ => rfl
  have A_is_name : At K mg "is_name" (top 14) ["value"] := at_mk X G a_is_name l_is_name c_is_name k_is_name fun _ _ _ _ _ _ us hl => match us, hl with | [_], _ => rfl
  have A_is_leg : At K mg "is_leg" (top 20) ["value"] := at_mk X G a_is_leg l_is_leg c_is_leg k_is_leg fun _ _ _ _ _ _ us hl => match us, hl with | [_], _ => rfl
  have A_want_row : At K mg "want_row" (top 17) ["value", "is_item", "most"] := at_mk X G a_want_row l_want_row c_want_row k_want_row fun _ _ _ _ _ _ us hl => match us, hl with | [_, _, _], _ => rfl
  have A_Walk_init : AtI K mg ((clsOf [C_HutsError, C_BadNumber, C_BadItem, C_TooMany, C_Unknown, C_Taken, C_Walk]) 6) "Walk" "Walk.__init__" (inClass (top 21) 0) ["self", "begin", "dark", "legs"] := atI_mk X G mk_Walk kc_Walk a_Walk a_Walk_init i_Walk_init l_Walk_init c_Walk_init k_Walk_init fun _ _ _ _ _ _ us hl => match us, hl with | [_, _, _, _], _ => rfl
  have A_Walk_eq : AtM K ((clsOf [C_HutsError, C_BadNumber, C_BadItem, C_TooMany, C_Unknown, C_Taken, C_Walk]) 6) "__eq__" "Walk.__eq__" (inClass (top 21) 1) ["self", "other"] := atM_mk (h := h) a_Walk_eq i_Walk_eq l_Walk_eq c_Walk_eq k_Walk_eq fun _ _ _ _ _ _ us hl => match us, hl with | [_, _], _ => rfl
  have A_Walk_place : AtM K ((clsOf [C_HutsError, C_BadNumber, C_BadItem, C_TooMany, C_Unknown, C_Taken, C_Walk]) 6) "place" "Walk.place" (inClass (top 21) 2) ["self", "name"] := atM_mk (h := h) a_Walk_place i_Walk_place l_Walk_place c_Walk_place k_Walk_place fun _ _ _ _ _ _ us hl => match us, hl with | [_, _], _ => rfl
  have A_Walk_back : AtM K ((clsOf [C_HutsError, C_BadNumber, C_BadItem, C_TooMany, C_Unknown, C_Taken, C_Walk]) 6) "back" "Walk.back" (inClass (top 21) 4) ["self", "name"] := atM_mk (h := h) a_Walk_back i_Walk_back l_Walk_back c_Walk_back k_Walk_back fun _ _ _ _ _ _ us hl => match us, hl with | [_, _], _ => rfl
  have A_Walk_turn_at : AtM K ((clsOf [C_HutsError, C_BadNumber, C_BadItem, C_TooMany, C_Unknown, C_Taken, C_Walk]) 6) "turn_at" "Walk.turn_at" (inClass (top 21) 5) ["self", "name"] := atM_mk (h := h) a_Walk_turn_at i_Walk_turn_at l_Walk_turn_at c_Walk_turn_at k_Walk_turn_at fun _ _ _ _ _ _ us hl => match us, hl with | [_, _], _ => rfl
  have A_Walk_arrives : AtM K ((clsOf [C_HutsError, C_BadNumber, C_BadItem, C_TooMany, C_Unknown, C_Taken, C_Walk]) 6) "arrives" "Walk.arrives" (inClass (top 21) 3) ["self", "name"] := atM_mk (h := h) a_Walk_arrives i_Walk_arrives l_Walk_arrives c_Walk_arrives k_Walk_arrives fun _ _ _ _ _ _ us hl => match us, hl with | [_, _], _ => rfl
  have A_Walk_surely_back : AtM K ((clsOf [C_HutsError, C_BadNumber, C_BadItem, C_TooMany, C_Unknown, C_Taken, C_Walk]) 6) "surely_back" "Walk.surely_back" (inClass (top 21) 6) ["self", "name"] := atM_mk (h := h) a_Walk_surely_back i_Walk_surely_back l_Walk_surely_back c_Walk_surely_back k_Walk_surely_back fun _ _ _ _ _ _ us hl => match us, hl with | [_, _], _ => rfl
  have A_Walk_farthest_sure : AtM K ((clsOf [C_HutsError, C_BadNumber, C_BadItem, C_TooMany, C_Unknown, C_Taken, C_Walk]) 6) "farthest_sure" "Walk.farthest_sure" (inClass (top 21) 8) ["self"] := atM_mk (h := h) a_Walk_farthest_sure i_Walk_farthest_sure l_Walk_farthest_sure c_Walk_farthest_sure k_Walk_farthest_sure fun _ _ _ _ _ _ us hl => match us, hl with | [_], _ => rfl
  have A__law_some : At K mg "_law_some" (top 34) ["row", "values"] := at_mk X G a__law_some l__law_some c__law_some k__law_some fun _ _ _ _ _ _ us hl => match us, hl with | [_, _], _ => rfl
  have A__law_truth : At K mg "_law_truth" (top 30) ["found", "due"] := at_mk X G a__law_truth l__law_truth c__law_truth k__law_truth fun _ _ _ _ _ _ us hl => match us, hl with | [_, _], _ => rfl
  have A_Walk_can_be : AtM K ((clsOf [C_HutsError, C_BadNumber, C_BadItem, C_TooMany, C_Unknown, C_Taken, C_Walk]) 6) "can_be" "Walk.can_be" (inClass (top 21) 12) ["self", "seen"] := atM_mk (h := h) a_Walk_can_be i_Walk_can_be l_Walk_can_be c_Walk_can_be k_Walk_can_be fun _ _ _ _ _ _ us hl => match us, hl with | [_, _], _ => rfl
  have A_Walk_must_turn : AtM K ((clsOf [C_HutsError, C_BadNumber, C_BadItem, C_TooMany, C_Unknown, C_Taken, C_Walk]) 6) "must_turn" "Walk.must_turn" (inClass (top 21) 11) ["self", "seen"] := atM_mk (h := h) a_Walk_must_turn i_Walk_must_turn l_Walk_must_turn c_Walk_must_turn k_Walk_must_turn fun _ _ _ _ _ _ us hl => match us, hl with | [_, _], _ => rfl
  have A_Walk_slower : AtM K ((clsOf [C_HutsError, C_BadNumber, C_BadItem, C_TooMany, C_Unknown, C_Taken, C_Walk]) 6) "slower" "Walk.slower" (inClass (top 21) 16) ["self", "tenths"] := atM_mk (h := h) a_Walk_slower i_Walk_slower l_Walk_slower c_Walk_slower k_Walk_slower fun _ _ _ _ _ _ us hl => match us, hl with | [_, _], _ => rfl
  have A_Walk_later : AtM K ((clsOf [C_HutsError, C_BadNumber, C_BadItem, C_TooMany, C_Unknown, C_Taken, C_Walk]) 6) "later" "Walk.later" (inClass (top 21) 15) ["self", "minutes"] := atM_mk (h := h) a_Walk_later i_Walk_later l_Walk_later c_Walk_later k_Walk_later fun _ _ _ _ _ _ us hl => match us, hl with | [_, _], _ => rfl
  have A__law_seen : At K mg "_law_seen" (top 36) ["row", "made", "told", "known"] := at_mk X G a__law_seen l__law_seen c__law_seen k__law_seen fun _ _ _ _ _ _ us hl => match us, hl with | [_, _, _, _], _ => rfl
  have A__law_strange : At K mg "_law_strange" (top 31) ["names"] := at_mk X G a__law_strange l__law_strange c__law_strange k__law_strange fun _ _ _ _ _ _ us hl => match us, hl with | [_], _ => rfl
  have A_want_minute : At K mg "want_minute" (top 22) ["minute"] := at_mk X G a_want_minute l_want_minute c_want_minute k_want_minute fun _ _ _ _ _ _ us hl => match us, hl with | [_], _ => rfl
  have A__law_whole : At K mg "_law_whole" (top 33) ["value"] := at_mk X G a__law_whole l__law_whole c__law_whole k__law_whole fun _ _ _ _ _ _ us hl => match us, hl with | [_], _ => rfl
  have A__law_refused_row : At K mg "_law_refused_row" (top 32) ["call", "due"] := at_mk X G a__law_refused_row l__law_refused_row c__law_refused_row k__law_refused_row fun _ _ _ _ _ _ us hl => match us, hl with | [_, _], _ => rfl
  have A__law_raised : At K mg "_law_raised" (top 35) ["told"] := at_mk X G a__law_raised l__law_raised c__law_raised k__law_raised fun _ _ _ _ _ _ us hl => match us, hl with | [_], _ => rfl
  have A__law_refused : At K mg "_law_refused" (top 37) ["row", "made", "told", "names"] := at_mk X G a__law_refused l__law_refused c__law_refused k__law_refused fun _ _ _ _ _ _ us hl => match us, hl with | [_, _, _, _], _ => rfl
  have A__law_mixed : At K mg "_law_mixed" (top 27) ["row", "value"] := at_mk X G a__law_mixed l__law_mixed c__law_mixed k__law_mixed fun _ _ _ _ _ _ us hl => match us, hl with | [_, _], _ => rfl
  have A__law_alike : At K mg "_law_alike" (top 26) ["found", "due"] := at_mk X G a__law_alike l__law_alike c__law_alike k__law_alike fun _ _ _ _ _ _ us hl => match us, hl with | [_, _], _ => rfl
  have A_Walk_next_bounds : AtM K ((clsOf [C_HutsError, C_BadNumber, C_BadItem, C_TooMany, C_Unknown, C_Taken, C_Walk]) 6) "next_bounds" "Walk.next_bounds" (inClass (top 21) 13) ["self", "name", "minute"] := atM_mk (h := h) a_Walk_next_bounds i_Walk_next_bounds l_Walk_next_bounds c_Walk_next_bounds k_Walk_next_bounds fun _ _ _ _ _ _ us hl => match us, hl with | [_, _, _], _ => rfl
  have A_Walk_may_be_back : AtM K ((clsOf [C_HutsError, C_BadNumber, C_BadItem, C_TooMany, C_Unknown, C_Taken, C_Walk]) 6) "may_be_back" "Walk.may_be_back" (inClass (top 21) 7) ["self", "name"] := atM_mk (h := h) a_Walk_may_be_back i_Walk_may_be_back l_Walk_may_be_back c_Walk_may_be_back k_Walk_may_be_back fun _ _ _ _ _ _ us hl => match us, hl with | [_, _], _ => rfl
  have A_Walk_rest_at : AtM K ((clsOf [C_HutsError, C_BadNumber, C_BadItem, C_TooMany, C_Unknown, C_Taken, C_Walk]) 6) "rest_at" "Walk.rest_at" (inClass (top 21) 10) ["self", "name"] := atM_mk (h := h) a_Walk_rest_at i_Walk_rest_at l_Walk_rest_at c_Walk_rest_at k_Walk_rest_at fun _ _ _ _ _ _ us hl => match us, hl with | [_, _], _ => rfl
  have A_Walk_latest_begin : AtM K ((clsOf [C_HutsError, C_BadNumber, C_BadItem, C_TooMany, C_Unknown, C_Taken, C_Walk]) 6) "latest_begin" "Walk.latest_begin" (inClass (top 21) 14) ["self", "name"] := atM_mk (h := h) a_Walk_latest_begin i_Walk_latest_begin l_Walk_latest_begin c_Walk_latest_begin k_Walk_latest_begin fun _ _ _ _ _ _ us hl => match us, hl with | [_, _], _ => rfl
  have A_Walk_go_on : AtM K ((clsOf [C_HutsError, C_BadNumber, C_BadItem, C_TooMany, C_Unknown, C_Taken, C_Walk]) 6) "go_on" "Walk.go_on" (inClass (top 21) 9) ["self", "name", "minute"] := atM_mk (h := h) a_Walk_go_on i_Walk_go_on l_Walk_go_on c_Walk_go_on k_Walk_go_on fun _ _ _ _ _ _ us hl => match us, hl with | [_, _, _], _ => rfl
  have F_law := fun_mk (st := top 38) l_law c_law k_law
  refine ⟨PySem.W.fnOf "law" "law" (defArgs (top 38)) (defBody (top 38)) (defScope (top 38)) .none kV_law dc_law pm_law an_law cd_law ct_law, fun s v => .of_eq rfl, fun base KB GB => law_by (c := cx K (clsOf [C_HutsError, C_BadNumber, C_BadItem, C_TooMany, C_Unknown, C_Taken, C_Walk]) (clsOf [f_is_leg])) rfl ?_ hp⟩
  have I_BadNumber := init1_ok (CX := L2.CX PySem.Challenge.pw_huttohut_k15_whole_turns w) (P := PySem.Challenge.pw_huttohut_k15_whole_turns) (w := w) (mg := mg) (base := base) (k := 0) (C := C_BadNumber) (D := C_BadNumber) il_BadNumber ic_BadNumber (NdefX.nscope_by (by decide +kernel)) ⟨⟨_, _, _, _, _, _, co_BadNumber, cv_BadNumber, cf_BadNumber⟩, ⟨_, _, _, cc_BadNumber'⟩, ⟨_, cd_BadNumber'⟩, rfl, anyT⟩ (PySem.W.mg_none_of X G z_super) rfl rfl rfl (by decide) (by decide) rfl rfl (fun env => ⟨_, rfl⟩) ⟨⟨⟨_, _, _, _, _, _, _, _, _, _, _, _, _, _, _, l_BadNumber, v_BadNumber⟩, s_BadNumber, e_BadNumber, t_BadNumber, k_BadNumber⟩, m_BadNumber, sup_mk cd_BadNumber' lb_BadNumber mr_BadNumber fi_BadNumber, b_BadNumber⟩ n_BadNumber_value
  have E_BadNumber : ExK PySem.Challenge.pw_huttohut_k15_whole_turns w K mg base (cx K (clsOf [C_HutsError, C_BadNumber, C_BadItem, C_TooMany, C_Unknown, C_Taken, C_Walk]) (clsOf [f_is_leg])) 1 1 1 "BadNumber" ["self", "value"] := ⟨⟨⟨_, _, _, _, _, _, _, _, _, _, _, _, _, _, _, l_BadNumber, v_BadNumber⟩, s_BadNumber, e_BadNumber, t_BadNumber, k_BadNumber⟩, ⟨_, _, i_BadNumber, it_BadNumber, I_BadNumber, .all fun us hl => match us, hl with | [_, _], _ => rfl⟩, PySem.W.mg_of X G a_BadNumber⟩
  have I_BadItem := init1_ok (CX := L2.CX PySem.Challenge.pw_huttohut_k15_whole_turns w) (P := PySem.Challenge.pw_huttohut_k15_whole_turns) (w := w) (mg := mg) (base := base) (k := 0) (C := C_BadItem) (D := C_BadItem) il_BadItem ic_BadItem (NdefX.nscope_by (by decide +kernel)) ⟨⟨_, _, _, _, _, _, co_BadItem, cv_BadItem, cf_BadItem⟩, ⟨_, _, _, cc_BadItem'⟩, ⟨_, cd_BadItem'⟩, rfl, anyT⟩ (PySem.W.mg_none_of X G z_super) rfl rfl rfl (by decide) (by decide) rfl rfl (fun env => ⟨_, rfl⟩) ⟨⟨⟨_, _, _, _, _, _, _, _, _, _, _, _, _, _, _, l_BadItem, v_BadItem⟩, s_BadItem, e_BadItem, t_BadItem, k_BadItem⟩, m_BadItem, sup_mk cd_BadItem' lb_BadItem mr_BadItem fi_BadItem, b_BadItem⟩ n_BadItem_index
  have E_BadItem : ExK PySem.Challenge.pw_huttohut_k15_whole_turns w K mg base (cx K (clsOf [C_HutsError, C_BadNumber, C_BadItem, C_TooMany, C_Unknown, C_Taken, C_Walk]) (clsOf [f_is_leg])) 1 2 1 "BadItem" ["self", "index"] := ⟨⟨⟨_, _, _, _, _, _, _, _, _, _, _, _, _, _, _, l_BadItem, v_BadItem⟩, s_BadItem, e_BadItem, t_BadItem, k_BadItem⟩, ⟨_, _, i_BadItem, it_BadItem, I_BadItem, .all fun us hl => match us, hl with | [_, _], _ => rfl⟩, PySem.W.mg_of X G a_BadItem⟩
  have I_TooMany := init1_ok (CX := L2.CX PySem.Challenge.pw_huttohut_k15_whole_turns w) (P := PySem.Challenge.pw_huttohut_k15_whole_turns) (w := w) (mg := mg) (base := base) (k := 0) (C := C_TooMany) (D := C_TooMany) il_TooMany ic_TooMany (NdefX.nscope_by (by decide +kernel)) ⟨⟨_, _, _, _, _, _, co_TooMany, cv_TooMany, cf_TooMany⟩, ⟨_, _, _, cc_TooMany'⟩, ⟨_, cd_TooMany'⟩, rfl, anyT⟩ (PySem.W.mg_none_of X G z_super) rfl rfl rfl (by decide) (by decide) rfl rfl (fun env => ⟨_, rfl⟩) ⟨⟨⟨_, _, _, _, _, _, _, _, _, _, _, _, _, _, _, l_TooMany, v_TooMany⟩, s_TooMany, e_TooMany, t_TooMany, k_TooMany⟩, m_TooMany, sup_mk cd_TooMany' lb_TooMany mr_TooMany fi_TooMany, b_TooMany⟩ n_TooMany_limit
  have E_TooMany : ExK PySem.Challenge.pw_huttohut_k15_whole_turns w K mg base (cx K (clsOf [C_HutsError, C_BadNumber, C_BadItem, C_TooMany, C_Unknown, C_Taken, C_Walk]) (clsOf [f_is_leg])) 1 3 1 "TooMany" ["self", "limit"] := ⟨⟨⟨_, _, _, _, _, _, _, _, _, _, _, _, _, _, _, l_TooMany, v_TooMany⟩, s_TooMany, e_TooMany, t_TooMany, k_TooMany⟩, ⟨_, _, i_TooMany, it_TooMany, I_TooMany, .all fun us hl => match us, hl with | [_, _], _ => rfl⟩, PySem.W.mg_of X G a_TooMany⟩
  have I_Unknown := init1_ok (CX := L2.CX PySem.Challenge.pw_huttohut_k15_whole_turns w) (P := PySem.Challenge.pw_huttohut_k15_whole_turns) (w := w) (mg := mg) (base := base) (k := 0) (C := C_Unknown) (D := C_Unknown) il_Unknown ic_Unknown (NdefX.nscope_by (by decide +kernel)) ⟨⟨_, _, _, _, _, _, co_Unknown, cv_Unknown, cf_Unknown⟩, ⟨_, _, _, cc_Unknown'⟩, ⟨_, cd_Unknown'⟩, rfl, anyT⟩ (PySem.W.mg_none_of X G z_super) rfl rfl rfl (by decide) (by decide) rfl rfl (fun env => ⟨_, rfl⟩) ⟨⟨⟨_, _, _, _, _, _, _, _, _, _, _, _, _, _, _, l_Unknown, v_Unknown⟩, s_Unknown, e_Unknown, t_Unknown, k_Unknown⟩, m_Unknown, sup_mk cd_Unknown' lb_Unknown mr_Unknown fi_Unknown, b_Unknown⟩ n_Unknown_value
  have E_Unknown : ExK PySem.Challenge.pw_huttohut_k15_whole_turns w K mg base (cx K (clsOf [C_HutsError, C_BadNumber, C_BadItem, C_TooMany, C_Unknown, C_Taken, C_Walk]) (clsOf [f_is_leg])) 1 4 1 "Unknown" ["self", "value"] := ⟨⟨⟨_, _, _, _, _, _, _, _, _, _, _, _, _, _, _, l_Unknown, v_Unknown⟩, s_Unknown, e_Unknown, t_Unknown, k_Unknown⟩, ⟨_, _, i_Unknown, it_Unknown, I_Unknown, .all fun us hl => match us, hl with | [_, _], _ => rfl⟩, PySem.W.mg_of X G a_Unknown⟩
  have I_Taken := init1_ok (CX := L2.CX PySem.Challenge.pw_huttohut_k15_whole_turns w) (P := PySem.Challenge.pw_huttohut_k15_whole_turns) (w := w) (mg := mg) (base := base) (k := 0) (C := C_Taken) (D := C_Taken) il_Taken ic_Taken (NdefX.nscope_by (by decide +kernel)) ⟨⟨_, _, _, _, _, _, co_Taken, cv_Taken, cf_Taken⟩, ⟨_, _, _, cc_Taken'⟩, ⟨_, cd_Taken'⟩, rfl, anyT⟩ (PySem.W.mg_none_of X G z_super) rfl rfl rfl (by decide) (by decide) rfl rfl (fun env => ⟨_, rfl⟩) ⟨⟨⟨_, _, _, _, _, _, _, _, _, _, _, _, _, _, _, l_Taken, v_Taken⟩, s_Taken, e_Taken, t_Taken, k_Taken⟩, m_Taken, sup_mk cd_Taken' lb_Taken mr_Taken fi_Taken, b_Taken⟩ n_Taken_value
  have E_Taken : ExK PySem.Challenge.pw_huttohut_k15_whole_turns w K mg base (cx K (clsOf [C_HutsError, C_BadNumber, C_BadItem, C_TooMany, C_Unknown, C_Taken, C_Walk]) (clsOf [f_is_leg])) 1 5 1 "Taken" ["self", "value"] := ⟨⟨⟨_, _, _, _, _, _, _, _, _, _, _, _, _, _, _, l_Taken, v_Taken⟩, s_Taken, e_Taken, t_Taken, k_Taken⟩, ⟨_, _, i_Taken, it_Taken, I_Taken, .all fun us hl => match us, hl with | [_, _], _ => rfl⟩, PySem.W.mg_of X G a_Taken⟩
  have O__law_taken := ok_law_taken (p := PySem.Challenge.pw_huttohut_k15_whole_turns) (w := w) (base := base) T A__law_taken
  have O__law_pick := ok_law_pick (p := PySem.Challenge.pw_huttohut_k15_whole_turns) (w := w) (base := base) T A__law_pick O__law_taken
  have O__law_name := ok_law_name (p := PySem.Challenge.pw_huttohut_k15_whole_turns) (w := w) (base := base) T A__law_name O__law_pick O__law_taken
  have O__law_names := ok_law_names (p := PySem.Challenge.pw_huttohut_k15_whole_turns) (w := w) (base := base) T A__law_names O__law_name
  have O_is_whole := okis_whole (p := PySem.Challenge.pw_huttohut_k15_whole_turns) (w := w) (base := base) T A_is_whole
  have O_is_number := okis_number (p := PySem.Challenge.pw_huttohut_k15_whole_turns) (w := w) (base := base) T A_is_number O_is_whole
  have O_want_number := okwant_number (p := PySem.Challenge.pw_huttohut_k15_whole_turns) (w := w) (base := base) T A_want_number O_is_number E_BadNumber
  have O_frozen := okfrozen (p := PySem.Challenge.pw_huttohut_k15_whole_turns) (w := w) (base := base) T A_frozen 5
  have O_is_row := okis_row (p := PySem.Challenge.pw_huttohut_k15_whole_turns) (w := w) (base := base) T A_is_row
  have O_is_name := okis_name (p := PySem.Challenge.pw_huttohut_k15_whole_turns) (w := w) (base := base) T A_is_name
  have O_is_leg := okis_leg (p := PySem.Challenge.pw_huttohut_k15_whole_turns) (w := w) (base := base) T A_is_leg O_is_row O_is_name O_is_number
  have O_want_row := okwant_row (p := PySem.Challenge.pw_huttohut_k15_whole_turns) (w := w) (base := base) T A_want_row O_is_row O_is_leg O_frozen E_BadItem E_TooMany
  have O_Walk_init := okWalk_init (p := PySem.Challenge.pw_huttohut_k15_whole_turns) (w := w) (base := base) T A_Walk_init O_want_number O_want_row E_Taken
  have O_Walk_eq := okWalk_eq (p := PySem.Challenge.pw_huttohut_k15_whole_turns) (w := w) (base := base) T A_Walk_eq
  have O_Walk_place := okWalk_place (p := PySem.Challenge.pw_huttohut_k15_whole_turns) (w := w) (base := base) T A_Walk_place E_Unknown
  have O_Walk_back := okWalk_back (p := PySem.Challenge.pw_huttohut_k15_whole_turns) (w := w) (base := base) T A_Walk_back O_Walk_place
  have O_Walk_turn_at := okWalk_turn_at (p := PySem.Challenge.pw_huttohut_k15_whole_turns) (w := w) (base := base) T A_Walk_turn_at O_Walk_back
  have O_Walk_arrives := okWalk_arrives (p := PySem.Challenge.pw_huttohut_k15_whole_turns) (w := w) (base := base) T A_Walk_arrives O_Walk_place
  have O_Walk_surely_back := okWalk_surely_back (p := PySem.Challenge.pw_huttohut_k15_whole_turns) (w := w) (base := base) T A_Walk_surely_back O_Walk_arrives O_Walk_turn_at
  have O_Walk_farthest_sure := okWalk_farthest_sure (p := PySem.Challenge.pw_huttohut_k15_whole_turns) (w := w) (base := base) T A_Walk_farthest_sure O_Walk_surely_back
  have O__law_some := ok_law_some (p := PySem.Challenge.pw_huttohut_k15_whole_turns) (w := w) (base := base) T A__law_some O__law_taken
  have O__law_truth := ok_law_truth (p := PySem.Challenge.pw_huttohut_k15_whole_turns) (w := w) (base := base) T A__law_truth
  have O_Walk_can_be := okWalk_can_be (p := PySem.Challenge.pw_huttohut_k15_whole_turns) (w := w) (base := base) T A_Walk_can_be O_Walk_place
  have O_Walk_must_turn := okWalk_must_turn (p := PySem.Challenge.pw_huttohut_k15_whole_turns) (w := w) (base := base) T A_Walk_must_turn O_Walk_turn_at
  have O_Walk_slower := okWalk_slower (p := PySem.Challenge.pw_huttohut_k15_whole_turns) (w := w) (base := base) T A_Walk_slower O_Walk_init
  have O_Walk_later := okWalk_later (p := PySem.Challenge.pw_huttohut_k15_whole_turns) (w := w) (base := base) T A_Walk_later O_Walk_init
  have O__law_seen := ok_law_seen (p := PySem.Challenge.pw_huttohut_k15_whole_turns) (w := w) (base := base) T A__law_seen O__law_taken O__law_some O_Walk_can_be O__law_truth O__law_pick O_Walk_turn_at O_Walk_must_turn O_Walk_eq O_Walk_slower O_Walk_init O_Walk_later
  have O__law_strange := ok_law_strange (p := PySem.Challenge.pw_huttohut_k15_whole_turns) (w := w) (base := base) T A__law_strange
  have O_want_minute := okwant_minute (p := PySem.Challenge.pw_huttohut_k15_whole_turns) (w := w) (base := base) T A_want_minute O_is_number E_BadItem
  have O__law_whole := ok_law_whole (p := PySem.Challenge.pw_huttohut_k15_whole_turns) (w := w) (base := base) T A__law_whole
  have O__law_refused_row := ok_law_refused_row (p := PySem.Challenge.pw_huttohut_k15_whole_turns) (w := w) (base := base) T A__law_refused_row O__law_whole
  have O__law_raised := ok_law_raised (p := PySem.Challenge.pw_huttohut_k15_whole_turns) (w := w) (base := base) T A__law_raised O_Walk_init
  have O__law_refused := ok_law_refused (p := PySem.Challenge.pw_huttohut_k15_whole_turns) (w := w) (base := base) T A__law_refused O__law_strange O_Walk_place O_Walk_arrives O_Walk_turn_at O_Walk_must_turn O_Walk_can_be O_want_minute O__law_pick O__law_raised O__law_refused_row
  have O__law_mixed := ok_law_mixed (p := PySem.Challenge.pw_huttohut_k15_whole_turns) (w := w) (base := base) T A__law_mixed O__law_taken
  have O__law_alike := ok_law_alike (p := PySem.Challenge.pw_huttohut_k15_whole_turns) (w := w) (base := base) T A__law_alike 5
  have O_Walk_next_bounds := okWalk_next_bounds (p := PySem.Challenge.pw_huttohut_k15_whole_turns) (w := w) (base := base) T A_Walk_next_bounds O_Walk_place
  have O_Walk_may_be_back := okWalk_may_be_back (p := PySem.Challenge.pw_huttohut_k15_whole_turns) (w := w) (base := base) T A_Walk_may_be_back O_Walk_arrives O_Walk_back
  have O_Walk_rest_at := okWalk_rest_at (p := PySem.Challenge.pw_huttohut_k15_whole_turns) (w := w) (base := base) T A_Walk_rest_at O_Walk_turn_at O_Walk_arrives
  have O_Walk_latest_begin := okWalk_latest_begin (p := PySem.Challenge.pw_huttohut_k15_whole_turns) (w := w) (base := base) T A_Walk_latest_begin O_Walk_rest_at
  have O_Walk_go_on := okWalk_go_on (p := PySem.Challenge.pw_huttohut_k15_whole_turns) (w := w) (base := base) T A_Walk_go_on O_Walk_place O_Walk_turn_at
  exact oklaw T F_law O__law_taken O__law_names O__law_mixed O_Walk_init O__law_alike O_Walk_eq O_Walk_farthest_sure O_Walk_place O_Walk_arrives O_Walk_back O_Walk_turn_at O_Walk_surely_back O__law_truth O_Walk_may_be_back O_Walk_rest_at O_Walk_latest_begin O_Walk_next_bounds O_Walk_go_on O__law_seen O__law_refused
theorem walk {l : PySem.W.OpenLaw} {q : Program} {loose : List Str} {XP : (Str → Option Value) → Heap → Prop} {YP : World → Heap → Prop} {d : DefRec} {K : Params → PySem.W.Frag} (hn : l.most = some 63) (hdf : d.params.defaults = []) (hl : l.prog = PySem.Challenge.pw_huttohut_k15_whole_turns)
    (hY : ∀ (w : World) (h : Heap), YP w h → (K w.params).In h)
    (F : ∀ (w : World) (mg : Str → Option Value) (fa : Addr) (h : Heap), (K w.params).In h → h.Ns mainGlobals mg → mg d.name = some (.ref fa) →
      ∃ fd : FuncData, (∀ (s : Shared) (u : Value), BindsTo s fd ⟨[u], []⟩ [("script", u)]) ∧ ∀ base : Heap, (K w.params).In base → base.Ns mainGlobals mg → FnG PySem.Challenge.pw_huttohut_k15_whole_turns w (K w.params) mg base 11 fa fd ["script"] (spLaw (K w.params))) :
    PySem.W.WalkO q loose XP YP l.row.toRowW d [] (fun f vs => PySem.call f vs) :=
  walk_ofG (n := 63) (k := 11) (x := "script") (sp := fun w => spLaw (K w.params)) hn (by decide) hdf ⟨rfl, by decide, by decide⟩ hY (by rw [hl]; exact F) (fun _ _ a ns hl _ hS => ⟨a, ns, rfl, hS, hl, fun _ => rfl⟩)
end PV

set_option maxHeartbeats 1000000
namespace PV
open PySem L2
/-! ### running in plain words: what each combinator does (shared by all laws) -/
section
variable {π : En} {i j : Nat} {p q : P} {o : O} {r : Rs} {rs : List Rs} {f g h : M Rs} {fa : M (List Rs)} {fl : M Fl} {s t : M Fl} {b : Bool} {ft gt : M Bool} {C : Nat} {ps qs : List P}
@[simp] theorem e_bok {α β : Type} {a : α} {k : α → M β} : (Out.ok a π).bind k = k a π := rfl
@[simp] theorem e_bexc {α β : Type} {k : α → M β} : (Out.exc C ps π : Out α).bind k = .exc C ps π := rfl
@[simp] theorem e_bbad {α β : Type} {k : α → M β} : (Out.bad : Out α).bind k = .bad := rfl
/-- slot i is no place to store at -/
def isL (π : En) (i : Nat) : Bool := match π[i]? with
  | none => true
  | some (.loan _) => true
  | some _ => false
def slLo : Sl → Bool
  | .loan _ => true
  | _ => false
@[simp] theorem slLo_no : slLo .no = false := rfl
@[simp] theorem slLo_val : slLo (.val p) = false := rfl
@[simp] theorem slLo_own : slLo (.own o) = false := rfl
@[simp] theorem slLo_loan : slLo (.loan o) = true := rfl
@[simp] theorem isL_0 {x : Sl} : isL (x :: π) 0 = slLo x := by cases x <;> rfl
@[simp] theorem isL_s {x : Sl} : isL (x :: π) (i + 1) = isL π i := rfl
theorem isL_set {x : Sl} : isL (π.set i x) j = if i = j then (if i < π.length then slLo x else true) else isL π j := by
  unfold isL
  rw [List.getElem?_set]
  by_cases e : i = j
  · subst e
    simp only [if_pos]
    by_cases k : i < π.length
    · simp only [if_pos k]; cases x <;> rfl
    · simp only [if_neg k]
  · simp only [if_neg e]
@[simp] theorem e_seq : seqF s t π = (s π).bind fun fl π1 => match fl with
  | .nx => t π1
  | fl => .ok fl π1 := rfl
@[simp] theorem e_skip : skipF π = .ok .nx π := rfl
@[simp] theorem e_if : ifF ft s t π = (ft π).bind fun b π1 => if b = true then s π1 else t π1 := rfl
@[simp] theorem e_drop : dropF f π = (f π).bind fun _ π1 => .ok .nx π1 := rfl
@[simp] theorem e_ret : retF f π = (f π).bind retR := rfl
@[simp] theorem e_retv : retR (.val p) π = .ok (.rt (.val p)) π := rfl
@[simp] theorem e_reto : retR (.own o) π = .ok (.rt (.own o)) π := rfl
@[simp] theorem e_retb : retR (.bor i) π = match π[i]? with
    | some (.own o) => .ok (.rt (.own o)) π
    | some (.val p) => .ok (.rt (.val p)) π
    | _ => .bad := rfl
@[simp] theorem e_retN : retNF π = .ok (.rt (.val .non)) π := rfl
@[simp] theorem e_set : setF i f π = (f π).bind (setR i) := rfl
@[simp] theorem e_setv : setR i (.val p) π = if isL π i = true then .bad else .ok .nx (π.set i (.val p)) := by
  unfold setR isL
  cases π[i]? with
  | none => rfl
  | some sl => cases sl <;> rfl
@[simp] theorem e_seto : setR i (.own o) π = if isL π i = true then .bad else .ok .nx (π.set i (.own o)) := by
  unfold setR isL
  cases π[i]? with
  | none => rfl
  | some sl => cases sl <;> rfl
@[simp] theorem e_par : parF i j f g π = (f π).bind fun r1 π1 => (g π1).bind fun r2 π2 => (setR i r1 π2).bind fun _ => setR j r2 := rfl
@[simp] theorem e_asg {tg : TgF} {fv : M P} : asgF tg fv π = (fv π).bind (asgR tg) := rfl
@[simp] theorem e_asgR {tg : TgF} : asgR tg p π = match tg p π with
  | some π' => .ok .nx π'
  | none => .bad := rfl
@[simp] theorem e_nameT : nameT i p π = if isL π i = true then none else some (π.set i (.val p)) := by
  unfold nameT isL
  cases π[i]? with
  | none => rfl
  | some sl => cases sl <;> rfl
@[simp] theorem e_tupT {u : List P → En → Option En} : tupT u (.tup ps) π = u ps π := rfl
@[simp] theorem e_nilT : nilT [] π = some π := rfl
@[simp] theorem e_consT {tg : TgF} {u : List P → En → Option En} : consT tg u (p :: ps) π = (tg p π).bind (u ps) := rfl
@[simp] theorem e_c : cF p π = .ok (.val p) π := rfl
@[simp] theorem e_var : varF i π = match π[i]? with
  | some (.val p) => .ok (.val p) π
  | some (.own _) => .ok (.bor i) π
  | some (.loan _) => .ok (.bor i) π
  | _ => .bad := rfl
@[simp] theorem e_val {fv : M P} : valF fv π = (fv π).bind fun p π' => .ok (.val p) π' := rfl
@[simp] theorem e_take : takeF f π = (f π).bind takeR := rfl
@[simp] theorem e_takev : takeR (.val p) π = .ok p π := rfl
@[simp] theorem e_takeo : takeR (.own o) π = .ok o.toP π := rfl
@[simp] theorem e_takeb : takeR (.bor i) π = match π[i]? with
    | some (.own o) => .ok o.toP (π.set i (.val o.toP))
    | some (.val p) => .ok p π
    | _ => .bad := rfl
@[simp] theorem toP_lst : (O.lst ps).toP = .lst ps := rfl
@[simp] theorem toP_obj : (O.obj C ps).toP = .obj C ps := rfl
@[simp] theorem toP_dct {t : Bool} : (O.dct t ps qs).toP = .dct t ps qs := rfl
@[simp] theorem e_bin {o : P → P → Option Rv} : binF o f g π = (f π).bind fun r1 π1 => (g π1).bind fun r2 => op2 o r1 r2 := rfl
@[simp] theorem e_op2 {o : P → P → Option Rv} {r1 r2 : Rs} : op2 o r1 r2 π = match rdP π r1, rdP π r2 with
  | some p1, some p2 => outR (o p1 p2) π
  | _, _ => .bad := rfl
@[simp] theorem e_un {o : P → Option Rv} : unF o f π = (f π).bind fun r1 => op1 o r1 := rfl
@[simp] theorem e_op1 {o : P → Option Rv} : op1 o r π = match rdP π r with
  | some p1 => outR (o p1) π
  | _ => .bad := rfl
@[simp] theorem e_opN {o : List P → Option Rv} : opN o rs π = match rds π rs with
  | some ps => outR (o ps) π
  | none => .bad := rfl
@[simp] theorem e_rds0 : rds π [] = some [] := rfl
@[simp] theorem e_rds1 : rds π (r :: rs) = match rdP π r, rds π rs with
    | some p, some ps => some (p :: ps)
    | _, _ => none := rfl
@[simp] theorem e_rdv : rdP π (.val p) = some p := rfl
@[simp] theorem e_rdo : rdP π (.own o) = some o.toP := rfl
@[simp] theorem e_rdb : rdP π (.bor i) = match π[i]? with
    | some (.own o) => some o.toP
    | some (.loan o) => some o.toP
    | some (.val p) => some p
    | _ => none := rfl
@[simp] theorem e_outv : outR (some (.val p)) π = .ok (.val p) π := rfl
@[simp] theorem e_outo : outR (some (.own o)) π = .ok (.own o) π := rfl
@[simp] theorem e_outn : outR none π = .bad := rfl
@[simp] theorem e_rsv : Rv.rs (.val p) = .val p := rfl
@[simp] theorem e_rso : Rv.rs (.own o) = .own o := rfl
@[simp] theorem e_cal {o : List P → Option Rv} : calF o fa π = (fa π).bind fun rs => opN o rs := rfl
@[simp] theorem e_nil : nilF π = .ok [] π := rfl
@[simp] theorem e_cons : consF f fa π = (f π).bind fun r π1 => (fa π1).bind fun rs π2 => .ok (r :: rs) π2 := rfl
@[simp] theorem e_tst : tstF f π = (f π).bind tstR := rfl
@[simp] theorem e_tstR : tstR (.val (.bl b)) π = .ok b π := rfl
@[simp] theorem e_and : andF ft gt π = (ft π).bind fun b π1 => if b = true then gt π1 else .ok false π1 := rfl
@[simp] theorem e_or : orF ft gt π = (ft π).bind fun b π1 => if b = true then .ok true π1 else gt π1 := rfl
@[simp] theorem e_not : notF ft π = (ft π).bind fun b π1 => .ok (!b) π1 := rfl
@[simp] theorem e_boolR {k : Bool → M Rs} : boolR k (.val (.bl b)) π = k b π := rfl
@[simp] theorem e_andV : andVF f g π = (f π).bind (boolR fun b π1 => if b = true then g π1 else .ok (.val (.bl false)) π1) := rfl
@[simp] theorem e_orV : orVF f g π = (f π).bind (boolR fun b π1 => if b = true then .ok (.val (.bl true)) π1 else g π1) := rfl
@[simp] theorem e_notV : notVF f π = (f π).bind (boolR fun b π1 => .ok (.val (.bl (!b))) π1) := rfl
@[simp] theorem e_ifE : ifEF ft f g π = (ft π).bind fun b π1 => if b = true then f π1 else g π1 := rfl
@[simp] theorem e_ch {o o' : P → P → Option Rv} : chF o o' f g h π = (f π).bind fun r1 π1 => (g π1).bind fun r2 π2 => (op2 o r1 r2 π2).bind (boolR fun b π3 => if b = true then (h π3).bind (fun r3 => op2 o' r2 r3) else .ok (.val (.bl false)) π3) := rfl
@[simp] theorem e_tup : tupF fa π = (fa π).bind tupR := rfl
@[simp] theorem e_tupR : tupR rs π = match vals rs with
  | some ps => if ps.length ≤ 1000000 then .ok (.val (.tup ps)) π else .bad
  | none => .bad := rfl
@[simp] theorem e_lst : lstF fa π = (fa π).bind lstR := rfl
@[simp] theorem e_lstR : lstR rs π = match vals rs with
  | some ps => if ps.length ≤ 1000000 then .ok (.own (.lst ps)) π else .bad
  | none => .bad := rfl
@[simp] theorem e_vals0 : vals [] = some [] := rfl
@[simp] theorem e_vals1 : vals (.val p :: rs) = (vals rs).map (p :: ·) := rfl
@[simp] theorem e_slF {g' h' : M (Option Int)} : slF f g' h' π = (f π).bind fun r π1 => (g' π1).bind fun lo π2 => (h' π2).bind fun hi => slR r lo hi := rfl
@[simp] theorem e_slR {lo hi : Option Int} : slR r lo hi π = match rdP π r with
  | some p => outR (slP p lo hi) π
  | none => .bad := rfl
@[simp] theorem e_noP : noP π = .ok none π := rfl
@[simp] theorem e_inP : inP f π = (f π).bind fun r π1 => match r with
  | .val (.int i) => .ok (some i) π1
  | _ => .bad := rfl
/-! calls -/
def toR (x : Out Rv) : M Rs := fun π => match x with
  | .ok r _ => .ok r.rs π
  | .exc C ps _ => .exc C ps π
  | .bad => .bad
@[simp] theorem toR_v {as : List Sl} : toR (.ok (.val p) as) π = .ok (.val p) π := rfl
@[simp] theorem toR_o {as : List Sl} : toR (.ok (.own o) as) π = .ok (.own o) π := rfl
@[simp] theorem toR_x {as : List Sl} : toR (.exc C ps as) π = .exc C ps π := rfl
theorem storeA_none {π : En} {rs : List Rs} {as : List Sl} (h : ∀ j, findL j rs as = none) : storeA π rs as = π := by
  apply List.ext_getElem?
  intro j
  rw [store_get, h j]
  cases π[j]? <;> rfl
theorem find_vals : ∀ (ps : List P) (as : List Sl) (j : Nat), findL j (ps.map Rs.val) as = none
  | [], as, j => by cases as <;> rfl
  | p :: ps, [], j => rfl
  | p :: ps, a :: as, j => by
    show findL j (ps.map Rs.val) as = none
    exact find_vals ps as j
theorem loads_vals : ∀ ps : List P, loads π (ps.map Rs.val) = some (ps.map Sl.val)
  | [] => rfl
  | p :: ps => by
    show (match loadR π (.val p), loads π (ps.map Rs.val) with | some s, some ss => some (s :: ss) | _, _ => none) = _
    rw [loads_vals ps]; rfl
theorem bor_vals : ∀ ps : List P, ((ps.map Rs.val).filterMap borIx) = []
  | [] => rfl
  | p :: ps => by
    rw [List.map_cons, List.filterMap_cons_none (by rfl)]
    exact bor_vals ps
theorem callR_vals {Fn : FN} (ps : List P) : callR Fn (ps.map Rs.val) π = toR (Fn (ps.map Sl.val)) π := by
  unfold callR toR
  rw [loads_vals, bor_vals]
  simp only [List.nodup_nil, if_true]
  cases Fn (ps.map Sl.val) with
  | ok r as => simp only [storeA_none (find_vals ps as)]
  | exc C qs as => simp only [storeA_none (find_vals ps as)]
  | bad => rfl
@[simp] theorem e_call {Fn : FN} : callF Fn fa π = (fa π).bind (callR Fn) := rfl
section
variable {Fn : FN} {a1 a2 a3 a4 a5 a6 : P}
@[simp] theorem callR_0 : callR Fn [] π = toR (Fn []) π := callR_vals []
@[simp] theorem callR_1 : callR Fn [.val a1] π = toR (Fn [.val a1]) π := callR_vals [a1]
@[simp] theorem callR_2 : callR Fn [.val a1, .val a2] π = toR (Fn [.val a1, .val a2]) π := callR_vals [a1, a2]
@[simp] theorem callR_3 : callR Fn [.val a1, .val a2, .val a3] π = toR (Fn [.val a1, .val a2, .val a3]) π := callR_vals [a1, a2, a3]
@[simp] theorem callR_4 : callR Fn [.val a1, .val a2, .val a3, .val a4] π = toR (Fn [.val a1, .val a2, .val a3, .val a4]) π := callR_vals [a1, a2, a3, a4]
@[simp] theorem callR_5 : callR Fn [.val a1, .val a2, .val a3, .val a4, .val a5] π = toR (Fn [.val a1, .val a2, .val a3, .val a4, .val a5]) π := callR_vals [a1, a2, a3, a4, a5]
@[simp] theorem callR_6 : callR Fn [.val a1, .val a2, .val a3, .val a4, .val a5, .val a6] π = toR (Fn [.val a1, .val a2, .val a3, .val a4, .val a5, .val a6]) π := callR_vals [a1, a2, a3, a4, a5, a6]
end
@[simp] theorem e_meth {C0 : Nat} {Fm : FN} : methF C0 Fm f fa π = (f π).bind fun r π1 => match rdP π1 r with
  | some (.obj C _) => if C = C0 then (fa π1).bind fun rs π2 => callR Fm (r :: rs) π2 else .bad
  | _ => .bad := rfl
@[simp] theorem e_mk {Fi : FN} : mkF C Fi fa π = (fa π).bind (mkR C Fi) := rfl
@[simp] theorem e_mkR {Fi : FN} : mkR C Fi rs π = match vals rs with
  | none => .bad
  | some ps => match Fi (.loan (.obj C []) :: ps.map .val) with
    | .ok (.val .non) (.loan (.obj C' vs) :: _) => if C' = C then .ok (.own (.obj C vs)) π else .bad
    | .exc C' qs _ => .exc C' qs π
    | _ => .bad := rfl
@[simp] theorem e_fn {n : Nat} {body : M Fl} {args : List Sl} : fnF n body args = match body (args ++ List.replicate n .no) with
  | .ok (.rt r) π' => .ok r (backA args π')
  | .ok .nx π' => .ok (.val .non) (backA args π')
  | .ok _ _ => .bad
  | .exc C ps π' => .exc C ps (backA args π')
  | .bad => .bad := rfl
@[simp] theorem back_v {a : P} {as : List Sl} : backA (.val a :: as) π = .val a :: backA as (π.drop 1) := by
  unfold backA
  rw [List.mapIdx_cons]
  congr 1
  apply List.mapIdx_eq_mapIdx_iff.mpr
  intro i hi
  cases as[i] <;> simp [List.getElem?_drop, Nat.add_comm]
@[simp] theorem back_n : backA [] π = [] := rfl
@[simp] theorem back_l {as : List Sl} : backA (.loan o :: as) π = (π[0]?).getD (.loan o) :: backA as (π.drop 1) := by
  unfold backA
  rw [List.mapIdx_cons]
  congr 1
  apply List.mapIdx_eq_mapIdx_iff.mpr
  intro i hi
  cases as[i] <;> simp [List.getElem?_drop, Nat.add_comm]
@[simp] theorem e_oe {C0 : Nat} {Fn : FN} {neg : Bool} {fp gp : M P} : oeF C0 Fn neg fp gp π = (fp π).bind fun p π1 => (gp π1).bind fun q => oeR C0 Fn neg p q := rfl
@[simp] theorem e_oeR {C0 : Nat} {Fn : FN} {neg : Bool} {vs : List P} : oeR C0 Fn neg (.obj C vs) q π = if C = C0 ∧ cmpOk C0 q = true then (match Fn [.val (.obj C vs), .val q] with
      | .ok (.val (.bl b)) _ => .ok (.val (.bl (if neg = true then !b else b))) π
      | _ => .bad) else .bad := rfl
@[simp] theorem e_fst {lay : Nat → List Str} {C0 : Nat} {x : Str} {fe : M P} : fstF lay i C0 x fe π = (fe π).bind (fstR lay i C0 x) := rfl
@[simp] theorem e_fstR {lay : Nat → List Str} {C0 : Nat} {x : Str} : fstR lay i C0 x p π = match getO C0 π i with
  | some vs => (match putV x p (lay C0) vs with
    | some ws => .ok .nx (putO C0 π i ws)
    | none => .bad)
  | none => .bad := rfl
@[simp] theorem e_getO {C0 : Nat} : getO C0 π i = (π[i]?).bind (slO C0) := rfl
@[simp] theorem e_slOo {C0 : Nat} : slO C0 (.own (.obj C ps)) = if C = C0 then some ps else none := rfl
@[simp] theorem e_slOl {C0 : Nat} : slO C0 (.loan (.obj C ps)) = if C = C0 then some ps else none := rfl
@[simp] theorem e_putO {C0 : Nat} : putO C0 π i ps = match π[i]? with
  | some sl => π.set i (sl.put (.obj C0 ps))
  | none => π := rfl
@[simp] theorem e_aug {k : Int → Int → Int} : augF i k f π = match π[i]? with
  | some (.val p) => (f π).bind (augR i k p)
  | _ => .bad := rfl
@[simp] theorem e_augR {k : Int → Int → Int} {a c : Int} : augR i k (.int a) (.val (.int c)) π = setR i (.val (.int (k a c))) π := rfl
@[simp] theorem e_par3 {l : Nat} : par3F i j l fa π = (fa π).bind (par3R i j l) := rfl
@[simp] theorem e_par3R {l : Nat} {r1 r2 r3 : Rs} : par3R i j l [r1, r2, r3] π = if (r1.isOwn && r2.isOwn || r1.isOwn && r3.isOwn || r2.isOwn && r3.isOwn) = false then (setR i r1 π).bind (fun _ π1 => (setR j r2 π1).bind fun _ π2 => setR l r3 π2) else .bad := rfl
@[simp] theorem isOwn_v : Rs.isOwn (.val p) = false := rfl
@[simp] theorem isOwn_o : Rs.isOwn (.own o) = true := rfl
@[simp] theorem e_nilV : nilV π = .ok [] π := rfl
@[simp] theorem e_consV {fp : M P} {gp : M (List P)} : consV fp gp π = (fp π).bind fun p π1 => (gp π1).bind fun ps π2 => .ok (p :: ps) π2 := rfl
theorem e_for {fi : M (List P)} {tg : TgF} {fb : M Fl} : forF fi tg fb π = (fi π).bind (loopF tg fb) := rfl
@[simp] theorem e_it {fp : M P} : itF fp π = (fp π).bind itR := rfl
@[simp] theorem e_itl : itR (.lst ps) π = .ok ps π := rfl
@[simp] theorem e_itt : itR (.tup ps) π = .ok ps π := rfl
@[simp] theorem e_enum {gp : M (List P)} : enumAF gp π = (gp π).bind enumAR := rfl
@[simp] theorem e_enuml : enumAR [.lst ps] π = .ok (enumP 0 ps) π := rfl
@[simp] theorem e_enumt : enumAR [.tup ps] π = .ok (enumP 0 ps) π := rfl
@[simp] theorem e_zip {gp : M (List P)} : zipF gp π = (gp π).bind zipR := rfl
@[simp] theorem e_zipt : zipR [.tup ps, .tup qs] π = if ps.length ≤ 1000000 then .ok (zipP ps qs) π else .bad := rfl
@[simp] theorem e_raise {n : Nat} : raiseF C n fa π = (fa π).bind (raiseR C n) := rfl
@[simp] theorem e_raiseR {n : Nat} : raiseR C n rs π = match vals rs with
  | some ps => if ps.length = n ∧ n ≤ 1000 then .exc C ps π else .bad
  | none => .bad := rfl
@[simp] theorem e_xf {k : Nat} : xfF ps k π = match ps[k]? with
  | some p => .ok (.val p) π
  | none => .bad := rfl
@[simp] theorem e_mut {op : List P → List P → Option (P × List P)} : mutF op i fa π = if (getL π i).isSome then (fa π).bind (mutR op i) else .bad := rfl
@[simp] theorem e_mutR {op : List P → List P → Option (P × List P)} : mutR op i rs π = match getL π i, vals rs with
  | some xs, some ps => (match op xs ps with
    | some (q, ys) => .ok (.val q) (putL π i ys)
    | none => .bad)
  | _, _ => .bad := rfl
@[simp] theorem e_getL : getL π i = (π[i]?).bind slL := rfl
@[simp] theorem slL_own : slL (.own (.lst ps)) = some ps := rfl
@[simp] theorem slL_loan : slL (.loan (.lst ps)) = some ps := rfl
@[simp] theorem e_putL : putL π i qs = match π[i]? with
  | some sl => π.set i (sl.put (.lst qs))
  | none => π := rfl
@[simp] theorem put_own {o' : O} : (Sl.own o).put o' = .own o' := rfl
@[simp] theorem put_loan {o' : O} : (Sl.loan o).put o' = .loan o' := rfl
@[simp] theorem e_st {fp : M P} : stF i fp f π = (fp π).bind fun p π1 => if (getL π1 i).isSome then (f π1).bind (stR i p) else .bad := rfl
@[simp] theorem e_stR {k : Int} : stR i p (.val (.int k)) π = match getL π i with
  | some xs => (match ixN xs.length k with
    | some j => .ok .nx (putL π i (xs.set j p))
    | none => .bad)
  | _ => .bad := by
  unfold stR
  cases getL π i <;> rfl
@[simp] theorem e_app {xs : List P} : appP xs [p] = if xs.length ≤ 1000000 then some (.non, xs ++ [p]) else none := rfl
@[simp] theorem e_rng1 : rng1F fa π = (fa π).bind rng1R := rfl
@[simp] theorem e_rng1R {k : Int} : rng1R [.val (.int k)] π = if -8000000 ≤ k ∧ k ≤ 8000000 then .ok (rngP 0 k) π else .bad := rfl
@[simp] theorem e_rng2 : rng2F fa π = (fa π).bind rng2R := rfl
@[simp] theorem e_rng2R {k l : Int} : rng2R [.val (.int k), .val (.int l)] π = if (-8000000 ≤ k ∧ k ≤ 8000000) ∧ -8000000 ≤ l ∧ l ≤ 8000000 then .ok (rngP k l) π else .bad := rfl
@[simp] theorem e_try {sb : Nat → Nat → Bool} {m : Nat} {fh : Nat → List P → M Fl} : tryF sb m i C fl fh π = match fl π with
  | .exc C' ps π1 => if C' < m then (if sb C' C = true then (if notL π1 i = true then hndR i (fh C' ps (π1.set i .no)) else .bad) else .exc C' ps π1) else .bad
  | o => o := rfl
@[simp] theorem e_tryM {sb : Nat → Nat → Bool} {m : Nat} {hs : List (Nat × Nat × (Nat → List P → M Fl))} : tryMF sb m fl hs π = match fl π with
  | .exc C' ps π1 => if C' < m then hndsR sb C' ps π1 hs else .bad
  | o => o := rfl
@[simp] theorem e_hnds0 {sb : Nat → Nat → Bool} {C' : Nat} : hndsR sb C' ps π [] = .exc C' ps π := rfl
@[simp] theorem e_hnds1 {sb : Nat → Nat → Bool} {C' : Nat} {fh : Nat → List P → M Fl} {r : List (Nat × Nat × (Nat → List P → M Fl))} : hndsR sb C' ps π ((i, C, fh) :: r) = if sb C' C = true then (if notL π i = true then hndR i (fh C' ps (π.set i .no)) else .bad) else hndsR sb C' ps π r := rfl
@[simp] theorem e_notL : notL π i = !isL π i := by
  unfold notL isL
  cases π[i]? with
  | none => rfl
  | some sl => cases sl <;> rfl
@[simp] theorem e_hndR {fl : Fl} : hndR i (.ok fl π) = if notL π i = true then .ok fl (π.set i .no) else .bad := rfl
end
end PV

set_option maxHeartbeats 1000000
namespace PV
open PySem L2
/-! ### numbers -/
def Sm (i : Int) : Prop := -(10 ^ 20) < i ∧ i < 10 ^ 20
theorem Sm.log {i : Int} (h : Sm i) : i.natAbs.log2 < 100 := by
  unfold Sm at h
  by_cases z : i.natAbs = 0
  · rw [z]; decide
  · exact (Nat.log2_lt z).mpr (by omega)
theorem mulP_sm {i j : Int} (hi : Sm i) (hj : Sm j) : mulP (.int i) (.int j) = some (.val (.int (i * j))) := by
  have h1 := hi.log
  have h2 := hj.log
  unfold mulP
  simp only [ii]
  rw [if_pos (by omega)]
theorem fdivP_sm {i j : Int} (hj : Sm j) (h0 : 0 < j) : fdivP (.int i) (.int j) = some (.val (.int (i / j))) := by
  have h2 := hj.log
  unfold fdivP
  simp only [ii]
  rw [if_pos ⟨h0, by omega⟩]
theorem modP_pos {i j : Int} (h0 : 0 < j) : modP (.int i) (.int j) = some (.val (.int (i % j))) := by
  unfold modP
  simp only [ii]
  rw [if_pos h0]
section
variable {i j : Int} {a b c d e f p q : P} {l ps qs : List P} {x y : Str} {u v : Bool}
@[simp] theorem addP_int : addP (.int i) (.int j) = some (.val (.int (i + j))) := rfl
@[simp] theorem subP_int : subP (.int i) (.int j) = some (.val (.int (i - j))) := rfl
@[simp] theorem negP_int : negP (.int i) = some (.val (.int (-i))) := rfl
@[simp] theorem ltP_int : ltP (.int i) (.int j) = some (.val (.bl (decide (i < j)))) := rfl
@[simp] theorem leP_int : leP (.int i) (.int j) = some (.val (.bl (decide (i ≤ j)))) := rfl
@[simp] theorem gtP_int : gtP (.int i) (.int j) = some (.val (.bl (decide (j < i)))) := rfl
@[simp] theorem geP_int : geP (.int i) (.int j) = some (.val (.bl (decide (j ≤ i)))) := rfl
@[simp] theorem intP_int : intP [.int i] = some (.val (.int i)) := rfl
@[simp] theorem intP_bl : intP [.bl u] = some (.val (.int (if u = true then 1 else 0))) := rfl
@[simp] theorem absP_int : absP [.int i] = some (.val (.int (if i < 0 then -i else i))) := rfl
@[simp] theorem max2_int : max2P [.int i, .int j] = some (.val (.int (max i j))) := by
  show some (Rv.val (P.int (if j > i then j else i))) = _
  congr 3
  split <;> omega
@[simp] theorem min2_int : min2P [.int i, .int j] = some (.val (.int (min i j))) := by
  show some (Rv.val (P.int (if j < i then j else i))) = _
  congr 3
  split <;> omega
@[simp] theorem lenP_tup : lenP [.tup l] = some (.val (.int l.length)) := rfl
@[simp] theorem lenP_lst : lenP [.lst l] = some (.val (.int l.length)) := rfl
@[simp] theorem lenP_scr {l : List Int} : lenP [.scr l] = some (.val (.int l.length)) := rfl
@[simp] theorem addP_tup : addP (.tup ps) (.tup qs) = if ps.length + qs.length ≤ 1000000 then some (.val (.tup (ps ++ qs))) else none := rfl
@[simp] theorem addP_lst : addP (.lst ps) (.lst qs) = if ps.length + qs.length ≤ 1000000 then some (.own (.lst (ps ++ qs))) else none := rfl
@[simp] theorem tupleP_l : tupleP [.lst ps] = some (.val (.tup ps)) := rfl
@[simp] theorem tupleP_t : tupleP [.tup ps] = some (.val (.tup ps)) := rfl
@[simp] theorem listP_l : listP [.lst ps] = some (.own (.lst ps)) := rfl
@[simp] theorem listP_t : listP [.tup ps] = some (.own (.lst ps)) := rfl
/-! indexing -/
theorem atI_nat {α : Type} {l : List α} {k : Nat} : atI l (k : Int) = l[k]? := by
  unfold atI ixN
  rw [if_pos (by omega)]
  by_cases h : k < l.length
  · rw [if_pos (by omega)]
    show l[(k : Int).toNat]? = _
    rw [Int.toNat_natCast]
  · rw [if_neg (by omega)]
    rw [List.getElem?_eq_none (by omega)]; rfl
theorem atI_pos {α : Type} {l : List α} {k : Int} (h : 0 ≤ k) : atI l k = l[k.toNat]? := by
  have := atI_nat (l := l) (k := k.toNat)
  rw [Int.toNat_of_nonneg h] at this
  exact this
theorem atI_m1 {α : Type} {l : List α} : atI l (-1) = l.getLast? := by
  unfold atI ixN
  rw [if_neg (by omega)]
  cases l with
  | nil => rfl
  | cons z l =>
    have h1 : -(((z :: l).length : Nat) : Int) ≤ -1 := by simp; omega
    rw [if_pos h1]
    show (z :: l)[(-1 + (((z :: l).length : Nat) : Int)).toNat]? = _
    rw [List.getLast?_eq_getElem?]
    congr 1
    simp
    omega
theorem ixT : ixP (.tup ps) (.int i) = (atI ps i).map .val := rfl
theorem ixL : ixP (.lst ps) (.int i) = (atI ps i).map .val := rfl
theorem ixS {ns : List Int} : ixP (.scr ns) (.int i) = (atI ns i).map fun n => .val (.int n) := rfl
@[simp] theorem at0 {α : Type} {a : α} {l : List α} : atI (a :: l) 0 = some a := by rw [show (0 : Int) = ((0 : Nat) : Int) from rfl, atI_nat]; rfl
@[simp] theorem at1 {α : Type} {a b : α} {l : List α} : atI (a :: b :: l) 1 = some b := by rw [show (1 : Int) = ((1 : Nat) : Int) from rfl, atI_nat]; rfl
@[simp] theorem at2 {α : Type} {a b c : α} {l : List α} : atI (a :: b :: c :: l) 2 = some c := by rw [show (2 : Int) = ((2 : Nat) : Int) from rfl, atI_nat]; rfl
@[simp] theorem at3 {α : Type} {a b c d : α} {l : List α} : atI (a :: b :: c :: d :: l) 3 = some d := by rw [show (3 : Int) = ((3 : Nat) : Int) from rfl, atI_nat]; rfl
@[simp] theorem at4 {α : Type} {a b c d e : α} {l : List α} : atI (a :: b :: c :: d :: e :: l) 4 = some e := by rw [show (4 : Int) = ((4 : Nat) : Int) from rfl, atI_nat]; rfl
@[simp] theorem at5 {α : Type} {a b c d e f : α} {l : List α} : atI (a :: b :: c :: d :: e :: f :: l) 5 = some f := by rw [show (5 : Int) = ((5 : Nat) : Int) from rfl, atI_nat]; rfl
/-! slices -/
@[simp] theorem slP_l {lo hi : Option Int} : slP (.lst ps) lo hi = some (.own (.lst (cutP ps lo hi))) := rfl
@[simp] theorem slP_t {lo hi : Option Int} : slP (.tup ps) lo hi = some (.val (.tup (cutP ps lo hi))) := rfl
theorem sIx_pos {n dd : Nat} {k : Int} (h : 0 ≤ k) : HT.sIx n dd (some k) = min k.toNat n := by
  unfold HT.sIx
  show (if k < 0 then _ else _) = _
  rw [if_neg (by omega)]
theorem cut_to {k : Int} (h : 0 ≤ k) : cutP ps none (some k) = ps.take k.toNat := by
  unfold cutP
  rw [sIx_pos h]
  show (ps.drop 0).take (min k.toNat ps.length - 0) = _
  rw [List.drop_zero, Nat.sub_zero]
  by_cases z : k.toNat ≤ ps.length
  · rw [Nat.min_eq_left z]
  · rw [Nat.min_eq_right (by omega), List.take_length, List.take_of_length_le (by omega)]
theorem cut_from {k : Int} (h : 0 ≤ k) : cutP ps (some k) none = ps.drop k.toNat := by
  unfold cutP
  rw [sIx_pos h]
  show (ps.drop (min k.toNat ps.length)).take (ps.length - min k.toNat ps.length) = _
  by_cases z : k.toNat ≤ ps.length
  · rw [Nat.min_eq_left z, List.take_of_length_le (by rw [List.length_drop]; exact Nat.le_refl _)]
  · rw [Nat.min_eq_right (by omega), List.drop_length, List.drop_of_length_le (by omega), List.take_nil]
theorem cut_mid {k m : Int} (h : 0 ≤ k) (h2 : k ≤ m) : cutP ps (some k) (some m) = (ps.take m.toNat).drop k.toNat := by
  unfold cutP
  rw [sIx_pos h, sIx_pos (by omega)]
  rw [List.drop_take]
  by_cases z : k.toNat ≤ ps.length
  · rw [Nat.min_eq_left z]
    by_cases y : m.toNat ≤ ps.length
    · rw [Nat.min_eq_left y]
    · rw [Nat.min_eq_right (by omega)]
      rw [List.take_of_length_le (by rw [List.length_drop]; omega), List.take_of_length_le (by rw [List.length_drop]; omega)]
  · rw [Nat.min_eq_right (show ps.length ≤ k.toNat by omega), List.drop_length, List.drop_of_length_le (by omega), List.take_nil, List.take_nil]
theorem cut_init : cutP ps none (some (-1)) = ps.dropLast := by
  unfold cutP HT.sIx
  show (ps.drop 0).take ((if (-1 : Int) < 0 then (-1 + (ps.length : Int)).toNat else _) - 0) = _
  rw [if_pos (by omega), List.drop_zero, List.dropLast_eq_take]
  congr 1
  omega
/-! data: equality -/
@[simp] theorem dat_int {n : Nat} : dat n (.int i) = true := by cases n <;> rfl
@[simp] theorem dat_bl {n : Nat} : dat n (.bl u) = true := by cases n <;> rfl
@[simp] theorem dat_non {n : Nat} : dat n .non = true := by cases n <;> rfl
@[simp] theorem dat_str {n : Nat} : dat n (.str x) = PyData.strOk x := by cases n <;> rfl
@[simp] theorem dat60t : dat 60 (.tup ps) = ps.all (dat 59) := rfl
@[simp] theorem dat59t : dat 59 (.tup ps) = ps.all (dat 58) := rfl
@[simp] theorem dat58t : dat 58 (.tup ps) = ps.all (dat 57) := rfl
@[simp] theorem dat57t : dat 57 (.tup ps) = ps.all (dat 56) := rfl
@[simp] theorem dat56t : dat 56 (.tup ps) = ps.all (dat 55) := rfl
@[simp] theorem dat60l : dat 60 (.lst ps) = ps.all (dat 59) := rfl
@[simp] theorem dat59l : dat 59 (.lst ps) = ps.all (dat 58) := rfl
@[simp] theorem dat58l : dat 58 (.lst ps) = ps.all (dat 57) := rfl
@[simp] theorem dat57l : dat 57 (.lst ps) = ps.all (dat 56) := rfl
@[simp] theorem dat56l : dat 56 (.lst ps) = ps.all (dat 55) := rfl
theorem eqP_d (hp : dat 60 p = true) (hq : dat 60 q = true) : eqP p q = some (.val (.bl (eqv p q))) := by
  unfold eqP
  rw [if_pos ⟨hp, hq⟩]
theorem neP_d (hp : dat 60 p = true) (hq : dat 60 q = true) : neP p q = some (.val (.bl (!eqv p q))) := by
  unfold neP
  rw [if_pos ⟨hp, hq⟩]
theorem beqd (i j : Int) : (i == j) = decide (i = j) := by by_cases h : i = j <;> simp [h]
def eqvs : List P → List P → Bool
  | [], [] => true
  | p :: ps, q :: qs => eqv p q && eqvs ps qs
  | [], _ :: _ => false
  | _ :: _, [] => false
theorem eqvs_d : ∀ ps qs : List P, PyData.eqvAll (toDs ps) (toDs qs) = eqvs ps qs
  | [], [] => rfl
  | p :: ps, q :: qs => by
    show (PyData.eqv (toD p) (toD q) && PyData.eqvAll (toDs ps) (toDs qs)) = (eqv p q && eqvs ps qs)
    rw [eqvs_d ps qs]; rfl
  | [], _ :: _ => rfl
  | _ :: _, [] => rfl
@[simp] theorem eqvs_nil : eqvs [] [] = true := rfl
@[simp] theorem eqvs_cons : eqvs (p :: ps) (q :: qs) = (eqv p q && eqvs ps qs) := rfl
@[simp] theorem eqvs_n1 : eqvs [] (q :: qs) = false := rfl
@[simp] theorem eqvs_n2 : eqvs (p :: ps) [] = false := rfl
@[simp] theorem eqv_int : eqv (.int i) (.int j) = decide (i = j) := beqd i j
@[simp] theorem eqv_bl : eqv (.bl u) (.bl v) = (u == v) := rfl
@[simp] theorem eqv_non : eqv .non .non = true := rfl
@[simp] theorem eqv_str : eqv (.str x) (.str y) = (x == y) := rfl
@[simp] theorem eqv_tup : eqv (.tup ps) (.tup qs) = eqvs ps qs := eqvs_d ps qs
@[simp] theorem eqv_lst : eqv (.lst ps) (.lst qs) = eqvs ps qs := eqvs_d ps qs
@[simp] theorem eqv_ni : eqv .non (.int i) = false := rfl
@[simp] theorem eqv_in : eqv (.int i) .non = false := rfl
@[simp] theorem eqv_nt : eqv .non (.tup ps) = false := rfl
@[simp] theorem eqv_tn : eqv (.tup ps) .non = false := rfl
@[simp] theorem eqv_nl : eqv .non (.lst ps) = false := rfl
@[simp] theorem eqv_ln : eqv (.lst ps) .non = false := rfl
@[simp] theorem eqv_ns : eqv .non (.str x) = false := rfl
@[simp] theorem eqv_sn : eqv (.str x) .non = false := rfl
@[simp] theorem eqv_si : eqv (.str x) (.int i) = false := rfl
@[simp] theorem eqv_is : eqv (.int i) (.str x) = false := rfl
@[simp] theorem eqv_tl : eqv (.tup ps) (.lst qs) = false := rfl
@[simp] theorem eqv_lt : eqv (.lst ps) (.tup qs) = false := rfl
@[simp] theorem eqv_it : eqv (.int i) (.tup ps) = false := rfl
@[simp] theorem eqv_ti : eqv (.tup ps) (.int i) = false := rfl
@[simp] theorem eqv_st : eqv (.str x) (.tup ps) = false := rfl
@[simp] theorem eqv_ts : eqv (.tup ps) (.str x) = false := rfl
@[simp] theorem eqv_nb : eqv .non (.bl u) = false := rfl
@[simp] theorem eqv_bn : eqv (.bl u) .non = false := rfl
mutual
theorem eqv_refl : ∀ p : P, eqv p p = true
  | .non => rfl
  | .bl b => by cases b <;> rfl
  | .int i => by simp
  | .str x => by rw [eqv_str]; exact beq_self_eq_true x
  | .tup ps => by rw [eqv_tup]; exact eqvs_refl ps
  | .lst ps => by rw [eqv_lst]; exact eqvs_refl ps
  | .dct _ _ _ => rfl
  | .obj _ _ => rfl
  | .fn _ => rfl
  | .scr _ => rfl
  | .ty _ => rfl
  | .cls _ => rfl
theorem eqvs_refl : ∀ ps : List P, eqvs ps ps = true
  | [] => rfl
  | p :: ps => by rw [eqvs_cons, eqv_refl p, eqvs_refl ps]; rfl
end
theorem eqvs_map {α : Type} [DecidableEq α] {g : α → P} (h : ∀ a b, eqv (g a) (g b) = decide (a = b)) : ∀ l m : List α, eqvs (l.map g) (m.map g) = decide (l = m)
  | [], [] => rfl
  | [], _ :: _ => rfl
  | _ :: _, [] => rfl
  | a :: l, b :: m => by
    rw [List.map_cons, List.map_cons, eqvs_cons, h, eqvs_map h l m]
    by_cases e : a = b <;> by_cases e2 : l = m <;> simp [e, e2]
theorem eqP_rf (hp : dat 60 p = true) : eqP p p = some (.val (.bl true)) := by rw [eqP_d hp hp, eqv_refl]
theorem neP_rf (hp : dat 60 p = true) : neP p p = some (.val (.bl false)) := by rw [neP_d hp hp, eqv_refl]; rfl
@[simp] theorem eqP_int : eqP (.int i) (.int j) = some (.val (.bl (decide (i = j)))) := by rw [eqP_d dat_int dat_int, eqv_int]
@[simp] theorem neP_int : neP (.int i) (.int j) = some (.val (.bl (!decide (i = j)))) := by rw [neP_d dat_int dat_int, eqv_int]
@[simp] theorem eqP_bl : eqP (.bl u) (.bl v) = some (.val (.bl (u == v))) := by rw [eqP_d dat_bl dat_bl, eqv_bl]
@[simp] theorem neP_bl : neP (.bl u) (.bl v) = some (.val (.bl (!(u == v)))) := by rw [neP_d dat_bl dat_bl, eqv_bl]
@[simp] theorem eqP_ni : eqP .non (.int i) = some (.val (.bl false)) := by rw [eqP_d dat_non dat_int, eqv_ni]
@[simp] theorem neP_ni : neP .non (.int i) = some (.val (.bl true)) := by rw [neP_d dat_non dat_int, eqv_ni]; rfl
@[simp] theorem eqP_in : eqP (.int i) .non = some (.val (.bl false)) := by rw [eqP_d dat_int dat_non, eqv_in]
@[simp] theorem neP_in : neP (.int i) .non = some (.val (.bl true)) := by rw [neP_d dat_int dat_non, eqv_in]; rfl
@[simp] theorem eqP_nn : eqP .non .non = some (.val (.bl true)) := eqP_rf dat_non
@[simp] theorem neP_nn : neP .non .non = some (.val (.bl false)) := neP_rf dat_non
@[simp] theorem eqP_nil : eqP (.lst []) (.lst []) = some (.val (.bl true)) := eqP_rf rfl
@[simp] theorem isN_v : isNP false p .non = some (.val (.bl p.isNon)) := rfl
@[simp] theorem isNN_v : isNP true p .non = some (.val (.bl (!p.isNon))) := rfl
@[simp] theorem isNon_non : P.isNon .non = true := rfl
@[simp] theorem isNon_int : P.isNon (.int i) = false := rfl
@[simp] theorem isNon_bl : P.isNon (.bl u) = false := rfl
@[simp] theorem isNon_str : P.isNon (.str x) = false := rfl
@[simp] theorem isNon_tup : P.isNon (.tup ps) = false := rfl
@[simp] theorem isNon_lst : P.isNon (.lst ps) = false := rfl
@[simp] theorem isNon_obj {C : Nat} : P.isNon (.obj C ps) = false := rfl
/-! isinstance -/
@[simp] theorem isi_int_int : isiP' [.int i, .ty "int"] = some (.val (.bl true)) := rfl
@[simp] theorem isi_int_bool : isiP' [.int i, .ty "bool"] = some (.val (.bl false)) := rfl
@[simp] theorem isi_int_str : isiP' [.int i, .ty "str"] = some (.val (.bl false)) := rfl
@[simp] theorem isi_int_list : isiP' [.int i, .ty "list"] = some (.val (.bl false)) := rfl
@[simp] theorem isi_int_tl : isiP' [.int i, .tup [.ty "tuple", .ty "list"]] = some (.val (.bl false)) := rfl
@[simp] theorem isi_int_lt : isiP' [.int i, .tup [.ty "list", .ty "tuple"]] = some (.val (.bl false)) := rfl
@[simp] theorem isi_bl_int : isiP' [.bl u, .ty "int"] = some (.val (.bl true)) := rfl
@[simp] theorem isi_bl_bool : isiP' [.bl u, .ty "bool"] = some (.val (.bl true)) := rfl
@[simp] theorem isi_bl_str : isiP' [.bl u, .ty "str"] = some (.val (.bl false)) := rfl
@[simp] theorem isi_bl_list : isiP' [.bl u, .ty "list"] = some (.val (.bl false)) := rfl
@[simp] theorem isi_bl_tl : isiP' [.bl u, .tup [.ty "tuple", .ty "list"]] = some (.val (.bl false)) := rfl
@[simp] theorem isi_bl_lt : isiP' [.bl u, .tup [.ty "list", .ty "tuple"]] = some (.val (.bl false)) := rfl
@[simp] theorem isi_non_int : isiP' [.non, .ty "int"] = some (.val (.bl false)) := rfl
@[simp] theorem isi_non_bool : isiP' [.non, .ty "bool"] = some (.val (.bl false)) := rfl
@[simp] theorem isi_non_str : isiP' [.non, .ty "str"] = some (.val (.bl false)) := rfl
@[simp] theorem isi_non_list : isiP' [.non, .ty "list"] = some (.val (.bl false)) := rfl
@[simp] theorem isi_non_tl : isiP' [.non, .tup [.ty "tuple", .ty "list"]] = some (.val (.bl false)) := rfl
@[simp] theorem isi_non_lt : isiP' [.non, .tup [.ty "list", .ty "tuple"]] = some (.val (.bl false)) := rfl
@[simp] theorem isi_str_int : isiP' [.str x, .ty "int"] = some (.val (.bl false)) := rfl
@[simp] theorem isi_str_bool : isiP' [.str x, .ty "bool"] = some (.val (.bl false)) := rfl
@[simp] theorem isi_str_str : isiP' [.str x, .ty "str"] = some (.val (.bl true)) := rfl
@[simp] theorem isi_str_list : isiP' [.str x, .ty "list"] = some (.val (.bl false)) := rfl
@[simp] theorem isi_str_tl : isiP' [.str x, .tup [.ty "tuple", .ty "list"]] = some (.val (.bl false)) := rfl
@[simp] theorem isi_str_lt : isiP' [.str x, .tup [.ty "list", .ty "tuple"]] = some (.val (.bl false)) := rfl
@[simp] theorem isi_tup_int : isiP' [.tup ps, .ty "int"] = some (.val (.bl false)) := rfl
@[simp] theorem isi_tup_bool : isiP' [.tup ps, .ty "bool"] = some (.val (.bl false)) := rfl
@[simp] theorem isi_tup_str : isiP' [.tup ps, .ty "str"] = some (.val (.bl false)) := rfl
@[simp] theorem isi_tup_list : isiP' [.tup ps, .ty "list"] = some (.val (.bl false)) := rfl
@[simp] theorem isi_tup_tuple : isiP' [.tup ps, .ty "tuple"] = some (.val (.bl true)) := rfl
@[simp] theorem isi_tup_tl : isiP' [.tup ps, .tup [.ty "tuple", .ty "list"]] = some (.val (.bl true)) := rfl
@[simp] theorem isi_tup_lt : isiP' [.tup ps, .tup [.ty "list", .ty "tuple"]] = some (.val (.bl true)) := rfl
@[simp] theorem isi_lst_int : isiP' [.lst ps, .ty "int"] = some (.val (.bl false)) := rfl
@[simp] theorem isi_lst_bool : isiP' [.lst ps, .ty "bool"] = some (.val (.bl false)) := rfl
@[simp] theorem isi_lst_str : isiP' [.lst ps, .ty "str"] = some (.val (.bl false)) := rfl
@[simp] theorem isi_lst_list : isiP' [.lst ps, .ty "list"] = some (.val (.bl true)) := rfl
@[simp] theorem isi_lst_tl : isiP' [.lst ps, .tup [.ty "tuple", .ty "list"]] = some (.val (.bl true)) := rfl
@[simp] theorem isi_lst_lt : isiP' [.lst ps, .tup [.ty "list", .ty "tuple"]] = some (.val (.bl true)) := rfl
/-! rows -/
theorem rng_nat {n : Nat} : rngP 0 (n : Int) = (List.range n).map fun (k : Nat) => P.int (k : Int) := by
  unfold rngP
  rw [show ((n : Int) - 0).toNat = n by omega]
  apply List.map_congr_left
  intro k _
  simp
theorem rng_pos {n : Int} : rngP 0 n = (List.range n.toNat).map fun (k : Nat) => P.int (k : Int) := by
  by_cases h : 0 ≤ n
  · have := rng_nat (n := n.toNat)
    rwa [Int.toNat_of_nonneg h] at this
  · unfold rngP
    rw [show (n - 0).toNat = 0 by omega, show n.toNat = 0 by omega]; rfl
theorem blsOf_m {α : Type} {g : α → Bool} : ∀ l : List α, blsOf (l.map fun a => P.bl (g a)) = some (l.map g)
  | [] => rfl
  | a :: l => by
    show (blsOf (l.map fun a => P.bl (g a))).map (g a :: ·) = _
    rw [blsOf_m l]; rfl
theorem intsOf_m {α : Type} {g : α → Int} : ∀ l : List α, intsOf (l.map fun a => P.int (g a)) = some (l.map g)
  | [] => rfl
  | a :: l => by
    show (intsOf (l.map fun a => P.int (g a))).map (g a :: ·) = _
    rw [intsOf_m l]; rfl
theorem allP_m {α : Type} {g : α → Bool} {l : List α} : allP [.lst (l.map fun a => P.bl (g a))] = some (.val (.bl (l.all g))) := by
  show (blsOf (l.map fun a => P.bl (g a))).bind (fun bs => ib (bs.all id)) = _
  rw [blsOf_m]
  simp [ib, Function.comp_def]
theorem anyP_m {α : Type} {g : α → Bool} {l : List α} : anyP [.lst (l.map fun a => P.bl (g a))] = some (.val (.bl (l.any g))) := by
  show (blsOf (l.map fun a => P.bl (g a))).bind (fun bs => ib (bs.any id)) = _
  rw [blsOf_m]
  simp [ib, Function.comp_def]
end
/-! ### loops -/
def lastO {α : Type} (o : Option α) (l : List α) : Option α := match l.getLast? with
  | some a => some a
  | none => o
theorem lastO_nil {α : Type} {o : Option α} : lastO o [] = o := rfl
theorem lastO_cons {α : Type} {o : Option α} {a : α} {l : List α} : lastO o (a :: l) = lastO (some a) l := by
  unfold lastO
  cases l with
  | nil => rfl
  | cons b l =>
    rw [List.getLast?_cons_cons]
    cases h : (b :: l).getLast? with
    | none => simp at h
    | some z => rfl
/-- a slot that a loop's turns fill -/
def ops {α : Type} (s : Sl) (g : α → P) : Option α → Sl
  | none => s
  | some a => .val (g a)
@[simp] theorem ops_lo {α : Type} {g : α → P} {o : Option α} : slLo (ops .no g o) = false := by cases o <;> rfl
@[simp] theorem ops_lov {α : Type} {g : α → P} {o : Option α} {p : P} : slLo (ops (.val p) g o) = false := by cases o <;> rfl
@[simp] theorem ops_s {α : Type} {s : Sl} {g : α → P} {a : α} : ops s g (some a) = .val (g a) := rfl
@[simp] theorem ops_n {α : Type} {s : Sl} {g : α → P} : ops s g none = s := rfl
section
variable {α σ : Type} {t : TgF} {fb : M Fl}
theorem loop_fold_app (E : σ → Option α → En) (item : α → P) (step : σ → α → σ) (R : List α → σ → Prop) (l : List α) (l2 : List P)
    (h : ∀ d a r s o, l = d ++ a :: r → R d s → R (d ++ [a]) (step s a) ∧ ∃ π1, t (item a) (E s o) = some π1 ∧ fb π1 = .ok .nx (E (step s a) (some a))) :
    ∀ s o, R [] s → loopF t fb (l.map item ++ l2) (E s o) = loopF t fb l2 (E (l.foldl step s) (lastO o l)) ∧ R l (l.foldl step s) := by
  have key : ∀ (r d : List α), l = d ++ r → ∀ s o, R d s → loopF t fb (r.map item ++ l2) (E s o) = loopF t fb l2 (E (r.foldl step s) (lastO o r)) ∧ R l (r.foldl step s) := by
    intro r
    induction r with
    | nil => intro d hd s o hR; rw [List.append_nil] at hd; subst hd; exact ⟨rfl, hR⟩
    | cons a r ih =>
      intro d hd s o hR
      obtain ⟨hR2, π1, h1, h2⟩ := h d a r s o hd hR
      have := ih (d ++ [a]) (by rw [hd]; simp) (step s a) (some a) hR2
      rw [List.map_cons, List.cons_append, List.foldl_cons, lastO_cons]
      refine ⟨?_, this.2⟩
      rw [← this.1]
      conv => lhs; unfold loopF
      simp only [h1, h2, Out.bind]
  exact fun s o hR => key l [] rfl s o hR
theorem loop_fold (E : σ → Option α → En) (item : α → P) (step : σ → α → σ) (R : List α → σ → Prop) (l : List α)
    (h : ∀ d a r s o, l = d ++ a :: r → R d s → R (d ++ [a]) (step s a) ∧ ∃ π1, t (item a) (E s o) = some π1 ∧ fb π1 = .ok .nx (E (step s a) (some a))) :
    ∀ s o, R [] s → loopF t fb (l.map item) (E s o) = .ok .nx (E (l.foldl step s) (lastO o l)) ∧ R l (l.foldl step s) := fun s o hR => by
  have := loop_fold_app (t := t) (fb := fb) E item step R l [] h s o hR
  rw [List.append_nil] at this
  exact this
theorem loop_inv (item : α → P) (I : List α → En → Prop) (l : List α)
    (h : ∀ d a r π, l = d ++ a :: r → I d π → ∃ π1 π2, t (item a) π = some π1 ∧ fb π1 = .ok .nx π2 ∧ I (d ++ [a]) π2) :
    ∀ π, I [] π → ∃ π', loopF t fb (l.map item) π = .ok .nx π' ∧ I l π' := by
  have key : ∀ (r d : List α), l = d ++ r → ∀ π, I d π → ∃ π', loopF t fb (r.map item) π = .ok .nx π' ∧ I l π' := by
    intro r
    induction r with
    | nil => intro d hd π hI; rw [List.append_nil] at hd; subst hd; exact ⟨π, rfl, hI⟩
    | cons a r ih =>
      intro d hd π hI
      obtain ⟨π1, π2, h1, h2, h3⟩ := h d a r π hd hI
      obtain ⟨π', e1, e2⟩ := ih (d ++ [a]) (by rw [hd]; simp) π2 h3
      refine ⟨π', ?_, e2⟩
      rw [List.map_cons]
      unfold loopF
      simp only [h1, h2, Out.bind]
      exact e1
  exact fun π hI => key l [] rfl π hI
/-- what a search gives -/
def fndR {α : Type} (out : α → Out Fl) (nx : Out Fl) : Option α → Out Fl
  | some a => out a
  | none => nx
@[simp] theorem fndR_s {α : Type} {out : α → Out Fl} {nx : Out Fl} {a : α} : fndR out nx (some a) = out a := rfl
@[simp] theorem fndR_n {α : Type} {out : α → Out Fl} {nx : Out Fl} : fndR out nx none = nx := rfl
/-- a loop that searches: the first with p leaves it -/
theorem loop_find (E : Option α → En) (item : α → P) (p : α → Bool) (out : α → Out Fl) (l : List α)
    (hn : ∀ a ∈ l, p a = false → ∀ o, ∃ π1, t (item a) (E o) = some π1 ∧ fb π1 = .ok .nx (E (some a)))
    (hy : ∀ a ∈ l, p a = true → ∀ o, ∃ π1, t (item a) (E o) = some π1 ∧ fb π1 = out a ∧ ((∃ r π2, out a = .ok (.rt r) π2) ∨ ∃ C ps π2, out a = .exc C ps π2)) :
    ∀ o, loopF t fb (l.map item) (E o) = fndR out (.ok .nx (E (lastO o l))) (l.find? p) := by
  induction l with
  | nil => intro o; rfl
  | cons a l ih =>
    intro o
    rw [List.map_cons]
    cases q : p a with
    | false =>
      obtain ⟨π1, h1, h2⟩ := hn a List.mem_cons_self q o
      have := ih (fun b hb => hn b (List.mem_cons_of_mem _ hb)) (fun b hb => hy b (List.mem_cons_of_mem _ hb)) (some a)
      rw [List.find?_cons_of_neg (by simp [q]), lastO_cons, ← this]
      conv => lhs; unfold loopF
      simp only [h1, h2, Out.bind]
    | true =>
      obtain ⟨π1, h1, h2, h3⟩ := hy a List.mem_cons_self q o
      rw [List.find?_cons_of_pos (by simp [q])]
      unfold loopF
      simp only [h1, h2]
      rcases h3 with ⟨r, π2, e⟩ | ⟨C, ps, π2, e⟩
      · rw [fndR_s, e]; rfl
      · rw [fndR_s, e]; rfl
end
/-! ### comprehensions -/
theorem lc_loop {α : Type} {t : TgF} {tt : M Bool} {fe : M P} {vs : List Nat} {π0 πw : En} {item : α → P} {b : α → Bool} {g : α → P} :
    ∀ (l : List α), (∀ a ∈ l, ∃ π1, t (item a) πw = some π1 ∧ tt π1 = .ok (b a) π1 ∧ (b a = true → fe π1 = .ok (g a) π1) ∧ chk vs π1 = true ∧ wipeE π1 vs = πw) → ∀ acc : List P,
    lcLoop t tt fe vs π0 (l.map item) acc πw = .ok (.own (.lst (acc ++ (l.filter b).map g))) (restE π0 πw vs)
  | [], _, acc => by simp [lcLoop]
  | a :: l, h, acc => by
    obtain ⟨π1, h1, h2, h3, h4, h5⟩ := h a List.mem_cons_self
    have ih := lc_loop (π0 := π0) l fun c hc => h c (List.mem_cons_of_mem _ hc)
    rw [List.map_cons]
    unfold lcLoop
    simp only [h1, h2]
    cases q : b a with
    | false =>
      simp only [if_pos h4, h5]
      rw [ih, List.filter_cons_of_neg (by simp [q])]
    | true =>
      simp only [h3 q, if_pos h4, h5]
      rw [ih, List.filter_cons_of_pos (by simp [q])]
      simp
theorem lc_pure {α : Type} {fi : M (List P)} {t : TgF} {tt : M Bool} {fe : M P} {vs : List Nat} {π : En} {item : α → P} {b : α → Bool} {g : α → P} (l : List α) (hfi : fi π = .ok (l.map item) π) (hc : chk vs π = true)
    (h : ∀ a ∈ l, ∃ π1, t (item a) (wipeE π vs) = some π1 ∧ tt π1 = .ok (b a) π1 ∧ (b a = true → fe π1 = .ok (g a) π1) ∧ chk vs π1 = true ∧ wipeE π1 vs = wipeE π vs) (hr : restE π (wipeE π vs) vs = π) :
    lcF fi t tt fe vs π = .ok (.own (.lst ((l.filter b).map g))) π := by
  unfold lcF
  simp only [hfi, Out.bind, if_pos hc]
  rw [lc_loop l h []]
  simp [hr]
/-- without a test -/
theorem lc_map {α : Type} {fi : M (List P)} {t : TgF} {fe : M P} {vs : List Nat} {π : En} {item : α → P} {g : α → P} (l : List α) (hfi : fi π = .ok (l.map item) π) (hc : chk vs π = true)
    (h : ∀ a ∈ l, ∃ π1, t (item a) (wipeE π vs) = some π1 ∧ fe π1 = .ok (g a) π1 ∧ chk vs π1 = true ∧ wipeE π1 vs = wipeE π vs) (hr : restE π (wipeE π vs) vs = π) :
    lcF fi t yesF fe vs π = .ok (.own (.lst (l.map g))) π := by
  have := lc_pure (tt := yesF) (b := fun _ => true) (g := g) l hfi hc (fun a ha => by
    obtain ⟨π1, h1, h2, h3, h4⟩ := h a ha
    exact ⟨π1, h1, rfl, fun _ => h2, h3, h4⟩) hr
  rw [List.filter_eq_self.mpr (fun _ _ => rfl)] at this
  exact this
end PV

set_option maxHeartbeats 1000000
namespace PV
open PySem L2
/-! ### what the later rules do, in plain words; texts as lists of signs -/
section
variable {π : En} {o : List P → Option Rv} {f : M Rs} {fa : M (List Rs)} {rs : List Rs} {lo hi : Option Int} {g h : M (Option Int)} {ps : List P} {i : Int} {r : Rs}
@[simp] theorem e_calv : calvF o fa π = (fa π).bind (calvR o) := rfl
@[simp] theorem e_calvR : calvR o rs π = match vals rs with
  | some ps => outR (o ps) π
  | none => .bad := rfl
@[simp] theorem e_slT : slTF f g h π = (f π).bind fun r π1 => (g π1).bind fun lo π2 => (h π2).bind fun hi => slTR r lo hi := rfl
@[simp] theorem e_slTR : slTR r lo hi π = match rdP π r with
  | some p => outR (slTP p lo hi) π
  | none => .bad := rfl
@[simp] theorem revP_l : revP (.lst ps) = some (.own (.lst ps.reverse)) := rfl
@[simp] theorem revP_t : revP (.tup ps) = some (.val (.tup ps.reverse)) := rfl
/-- a text by its signs -/
def tx (l : List Nat) : Str := ⟨l.toArray⟩
@[simp] theorem tx_cps (l : List Nat) : (tx l).cps.toList = l := rfl
@[simp] theorem tx_len (l : List Nat) : (tx l).length = l.length := rfl
theorem tx_inj {l m : List Nat} : tx l = tx m ↔ l = m := ⟨fun e => by have := congrArg (fun z : Str => z.cps.toList) e; simpa using this, fun e => by rw [e]⟩
theorem tx_beq (l m : List Nat) : (tx l == tx m) = decide (l = m) := by
  by_cases e : l = m
  · subst e; simp
  · simp only [e, decide_false]
    exact beq_eq_false_iff_ne.mpr fun q => e (tx_inj.mp q)
theorem tx_app (l m : List Nat) : tx l ++ tx m = tx (l ++ m) := by
  show (⟨l.toArray ++ m.toArray⟩ : Str) = _
  rw [List.append_toArray]; rfl
/-- signs that a text of Python can have -/
theorem eqv_tx (l m : List Nat) : eqv (.str (tx l)) (.str (tx m)) = decide (l = m) := by rw [eqv_str, tx_beq]
theorem ixTx {l : List Nat} (hl : l.length ≤ 1000000) : ixP (.str (tx l)) (.int i) = (atI l i).map fun n => .val (.str (tx [n])) := by
  show (if (tx l).length ≤ 1000000 then _ else _) = _
  rw [if_pos (show (tx l).length ≤ 1000000 from hl)]; rfl
theorem lenTx {l : List Nat} (hl : l.length ≤ 1000000) : lenP [.str (tx l)] = some (.val (.int l.length)) := by
  show (if (tx l).length ≤ 1000000 then _ else _) = _
  rw [if_pos (show (tx l).length ≤ 1000000 from hl)]; rfl
theorem addTx {l m : List Nat} (hl : l.length + m.length ≤ 1000000) : addP (.str (tx l)) (.str (tx m)) = some (.val (.str (tx (l ++ m)))) := by
  show (if (tx l).length + (tx m).length ≤ 1000000 then _ else _) = _
  rw [if_pos (show (tx l).length + (tx m).length ≤ 1000000 from hl), tx_app]
theorem inTx {n : Nat} {l : List Nat} (b : Bool) : inXP b (.str (tx [n])) (.str (tx l)) = some (.val (.bl (if b = true then !decide (n ∈ l) else decide (n ∈ l)))) := rfl
theorem itTx {l : List Nat} (hl : l.length ≤ 1000000) : itTR (.str (tx l)) π = .ok (l.map fun n => .str (tx [n])) π := by
  show (if (tx l).length ≤ 1000000 then _ else _) = _
  rw [if_pos (show (tx l).length ≤ 1000000 from hl)]; rfl
theorem inXL (b : Bool) (p : P) : inXP b p (.lst ps) = inLP b p (.lst ps) := by cases p <;> rfl
end
end PV

set_option maxHeartbeats 1000000
namespace PV
open PySem L2
/-! ### shared by the plain proofs: sequences, comprehensions that change slots, lent arguments -/
theorem lc_idem {fi : M (List P)} {t : TgF} {tt : M Bool} {fe : M P} {vs : List Nat} {π π' : En} {ps : List P} (h1 : fi π = .ok ps π') (h2 : fi π' = .ok ps π') : lcF fi t tt fe vs π = lcF fi t tt fe vs π' := by
  unfold lcF; rw [h1, h2]
theorem seq_ok {s t : M Fl} {π π' : En} (h : s π = .ok .nx π') : seqF s t π = t π' := by rw [e_seq, h]; rfl
theorem lcO_loop {α : Type} {i : Nat} {ps0 : List P} {t : TgF} {fe : M P} {vs : List Nat} {π0 : En} {item : α → P} (I : List α → List P → En → Prop) (l : List α)
    (h : ∀ d a r acc π, l = d ++ a :: r → I d acc π → getL π i = some ps0 ∧ ∃ π1 q π3, t (item a) π = some π1 ∧ fe π1 = .ok q π3 ∧ chk vs π3 = true ∧ I (d ++ [a]) (acc ++ [q]) (wipeE π3 vs))
    (he : ∀ acc π, I l acc π → getL π i = some ps0) : ∀ π, I [] [] π → ∃ acc π', lcLoopO i ps0 t yesF fe vs π0 (l.map item) [] π = .ok (.own (.lst acc)) (restE π0 π' vs) ∧ I l acc π' := by
  have key : ∀ (r d : List α), l = d ++ r → ∀ acc π, I d acc π → ∃ acc' π', lcLoopO i ps0 t yesF fe vs π0 (r.map item) acc π = .ok (.own (.lst acc')) (restE π0 π' vs) ∧ I l acc' π' := by
    intro r
    induction r with
    | nil =>
      intro d hd acc π hI
      rw [List.append_nil] at hd; subst hd
      refine ⟨acc, π, ?_, hI⟩
      rw [List.map_nil]
      unfold lcLoopO
      simp only [if_pos (he acc π hI)]
    | cons a r ih =>
      intro d hd acc π hI
      obtain ⟨g, π1, q, π3, h1, h2, h3, h4⟩ := h d a r acc π hd hI
      obtain ⟨acc', π', e1, e2⟩ := ih (d ++ [a]) (by rw [hd]; simp) (acc ++ [q]) _ h4
      refine ⟨acc', π', ?_, e2⟩
      rw [← e1, List.map_cons]
      conv => lhs; unfold lcLoopO
      rw [if_pos g]
      simp only [h1, show yesF π1 = .ok true π1 from rfl, h2, if_pos h3]
  exact fun π hI => key l [] rfl [] π hI
/-- a comprehension whose test and element may change slots -/
theorem lcS_loop {α : Type} {t : TgF} {tt : M Bool} {fe : M P} {vs : List Nat} {π0 : En} {item : α → P} (I : List α → List P → En → Prop) (l : List α)
    (h : ∀ d a r acc π, l = d ++ a :: r → I d acc π → ∃ π1 b π2, t (item a) π = some π1 ∧ tt π1 = .ok b π2 ∧ (b = false → chk vs π2 = true ∧ I (d ++ [a]) acc (wipeE π2 vs)) ∧ (b = true → ∃ q π3, fe π2 = .ok q π3 ∧ chk vs π3 = true ∧ I (d ++ [a]) (acc ++ [q]) (wipeE π3 vs))) :
    ∀ π, I [] [] π → ∃ acc π', lcLoop t tt fe vs π0 (l.map item) [] π = .ok (.own (.lst acc)) (restE π0 π' vs) ∧ I l acc π' := by
  have key : ∀ (r d : List α), l = d ++ r → ∀ acc π, I d acc π → ∃ acc' π', lcLoop t tt fe vs π0 (r.map item) acc π = .ok (.own (.lst acc')) (restE π0 π' vs) ∧ I l acc' π' := by
    intro r
    induction r with
    | nil =>
      intro d hd acc π hI
      rw [List.append_nil] at hd; subst hd
      exact ⟨acc, π, rfl, hI⟩
    | cons a r ih =>
      intro d hd acc π hI
      obtain ⟨π1, b, π2, h1, h2, h3, h4⟩ := h d a r acc π hd hI
      cases b with
      | false =>
        obtain ⟨c1, c2⟩ := h3 rfl
        obtain ⟨acc', π', e1, e2⟩ := ih (d ++ [a]) (by rw [hd]; simp) acc _ c2
        refine ⟨acc', π', ?_, e2⟩
        rw [← e1, List.map_cons]
        conv => lhs; unfold lcLoop
        simp only [h1, h2, if_pos c1]
      | true =>
        obtain ⟨q, π3, c0, c1, c2⟩ := h4 rfl
        obtain ⟨acc', π', e1, e2⟩ := ih (d ++ [a]) (by rw [hd]; simp) (acc ++ [q]) _ c2
        refine ⟨acc', π', ?_, e2⟩
        rw [← e1, List.map_cons]
        conv => lhs; unfold lcLoop
        simp only [h1, h2, c0, if_pos c1]
  exact fun π hI => key l [] rfl [] π hI
theorem lcS {α : Type} {fi : M (List P)} {t : TgF} {tt : M Bool} {fe : M P} {vs : List Nat} {π π0 : En} {item : α → P} (I : List α → List P → En → Prop) (l : List α) (hfi : fi π = .ok (l.map item) π0) (hc : chk vs π0 = true)
    (h : ∀ d a r acc π, l = d ++ a :: r → I d acc π → ∃ π1 b π2, t (item a) π = some π1 ∧ tt π1 = .ok b π2 ∧ (b = false → chk vs π2 = true ∧ I (d ++ [a]) acc (wipeE π2 vs)) ∧ (b = true → ∃ q π3, fe π2 = .ok q π3 ∧ chk vs π3 = true ∧ I (d ++ [a]) (acc ++ [q]) (wipeE π3 vs)))
    (h0 : I [] [] (wipeE π0 vs)) : ∃ acc π', lcF fi t tt fe vs π = .ok (.own (.lst acc)) (restE π0 π' vs) ∧ I l acc π' := by
  unfold lcF
  rw [hfi, e_bok, if_pos hc]
  exact lcS_loop I l h _ h0
/-- without a test -/
theorem lcSm {α : Type} {fi : M (List P)} {t : TgF} {fe : M P} {vs : List Nat} {π π0 : En} {item : α → P} (I : List α → List P → En → Prop) (l : List α) (hfi : fi π = .ok (l.map item) π0) (hc : chk vs π0 = true)
    (h : ∀ d a r acc π, l = d ++ a :: r → I d acc π → ∃ π1 q π3, t (item a) π = some π1 ∧ fe π1 = .ok q π3 ∧ chk vs π3 = true ∧ I (d ++ [a]) (acc ++ [q]) (wipeE π3 vs))
    (h0 : I [] [] (wipeE π0 vs)) : ∃ acc π', lcF fi t yesF fe vs π = .ok (.own (.lst acc)) (restE π0 π' vs) ∧ I l acc π' :=
  lcS I l hfi hc (fun d a r acc π e hI => by
    obtain ⟨π1, q, π3, h1, h2, h3, h4⟩ := h d a r acc π e hI
    exact ⟨π1, true, π1, h1, rfl, fun z => (by cases z), fun _ => ⟨q, π3, h2, h3, h4⟩⟩) h0
/-! slots that hold nothing or a value -/
def nv (s : Sl) : Prop := s = .no ∨ ∃ p, s = .val p
theorem nv_lo {s : Sl} (h : nv s) : slLo s = false := by rcases h with rfl | ⟨p, rfl⟩ <;> rfl
theorem nv_no : nv .no := .inl rfl
theorem nv_v {p : P} : nv (.val p) := .inr ⟨p, rfl⟩
/-! one lent argument, then values -/
theorem storeX {π : En} {i : Nat} {ps : List P} {o o0 : O} {sl : Sl} {as : List Sl} (h : π[i]? = some sl) (hs : sl.ow = some o0) : storeA π (.bor i :: ps.map Rs.val) (.loan o :: as) = π.set i (sl.put o) := by
  apply List.ext_getElem?
  intro j
  have hi := (List.getElem?_eq_some_iff.mp h).1
  rw [store_get]
  by_cases z : i = j
  · subst z
    rw [h, List.getElem?_set_self hi]
    show some (match (if i = i then some o else _) with | some o => sl.put o | none => _) = _
    rw [if_pos rfl]
  · rw [List.getElem?_set_ne z]
    have : findL j (.bor i :: ps.map Rs.val) (.loan o :: as) = none := by
      show (if i = j then some o else _) = none
      rw [if_neg z]
      exact find_vals ps as j
    rw [this]
    cases π[j]? <;> rfl
def toRx (π : En) (rs : List Rs) (x : Out Rv) : Out Rs := match x with
  | .ok r as => .ok r.rs (storeA π rs as)
  | .exc C ps as => .exc C ps (storeA π rs as)
  | .bad => .bad
theorem callR_X {Fn : FN} {π : En} {i : Nat} {ps : List P} {o : O} {sl : Sl} (h : π[i]? = some sl) (hs : sl.ow = some o) : callR Fn (.bor i :: ps.map .val) π = toRx π (.bor i :: ps.map .val) (Fn (.loan o :: ps.map .val)) := by
  unfold callR
  have e : loads π (.bor i :: ps.map .val) = some (.loan o :: ps.map .val) := by
    show (match loadR π (.bor i), loads π (ps.map Rs.val) with | some s, some ss => some (s :: ss) | _, _ => none) = _
    rw [loads_vals]
    have : loadR π (.bor i) = some (.loan o) := by
      cases sl <;> first | (cases hs; done) | (cases hs; simp [loadR, h])
    rw [this]
  rw [e]
  have e2 : ((Rs.bor i :: ps.map Rs.val).filterMap borIx) = [i] := by
    rw [List.filterMap_cons_some (f := borIx) (b := i) rfl, bor_vals]
  simp only [e2, List.nodup_cons, List.not_mem_nil, not_false_eq_true, List.nodup_nil, and_self, if_true]
  rfl
/-- a call that ends well -/
theorem call_X {Fn : FN} {π : En} {i : Nat} {ps : List P} {o o' : O} {sl : Sl} {r : Rv} {as : List Sl} (h : π[i]? = some sl) (hs : sl.ow = some o) (e : Fn (.loan o :: ps.map .val) = .ok r (.loan o' :: as)) : callR Fn (.bor i :: ps.map .val) π = .ok r.rs (π.set i (sl.put o')) := by
  rw [callR_X h hs, e]
  show Out.ok r.rs (storeA π _ _) = _
  rw [storeX h hs]
theorem call_X0 {Fn : FN} {π : En} {i : Nat} {o o' : O} {sl : Sl} {r : Rv} {as : List Sl} (h : π[i]? = some sl) (hs : sl.ow = some o) (e : Fn [.loan o] = .ok r (.loan o' :: as)) : callR Fn [.bor i] π = .ok r.rs (π.set i (sl.put o')) := call_X (ps := []) h hs e
theorem call_X1 {Fn : FN} {π : En} {i : Nat} {a : P} {o o' : O} {sl : Sl} {r : Rv} {as : List Sl} (h : π[i]? = some sl) (hs : sl.ow = some o) (e : Fn [.loan o, .val a] = .ok r (.loan o' :: as)) : callR Fn [.bor i, .val a] π = .ok r.rs (π.set i (sl.put o')) := call_X (ps := [a]) h hs e
theorem call_X2 {Fn : FN} {π : En} {i : Nat} {a b : P} {o o' : O} {sl : Sl} {r : Rv} {as : List Sl} (h : π[i]? = some sl) (hs : sl.ow = some o) (e : Fn [.loan o, .val a, .val b] = .ok r (.loan o' :: as)) : callR Fn [.bor i, .val a, .val b] π = .ok r.rs (π.set i (sl.put o')) := call_X (ps := [a, b]) h hs e
theorem call_X3 {Fn : FN} {π : En} {i : Nat} {a b c : P} {o o' : O} {sl : Sl} {r : Rv} {as : List Sl} (h : π[i]? = some sl) (hs : sl.ow = some o) (e : Fn [.loan o, .val a, .val b, .val c] = .ok r (.loan o' :: as)) : callR Fn [.bor i, .val a, .val b, .val c] π = .ok r.rs (π.set i (sl.put o')) := call_X (ps := [a, b, c]) h hs e
theorem call_X4 {Fn : FN} {π : En} {i : Nat} {a b c d : P} {o o' : O} {sl : Sl} {r : Rv} {as : List Sl} (h : π[i]? = some sl) (hs : sl.ow = some o) (e : Fn [.loan o, .val a, .val b, .val c, .val d] = .ok r (.loan o' :: as)) : callR Fn [.bor i, .val a, .val b, .val c, .val d] π = .ok r.rs (π.set i (sl.put o')) := call_X (ps := [a, b, c, d]) h hs e
end PV

set_option maxHeartbeats 1000000
namespace PV
open PySem L2
/-! ### the small defs -/
theorem whole_int {i : Int} : Fis_whole [.val (.int i)] = .ok (.val (.bl true)) [.val (.int i)] := by
  unfold Fis_whole Bis_whole; simp
theorem number_int {i a b : Int} : Fis_number [.val (.int i), .val (.int a), .val (.int b)] = .ok (.val (.bl (decide (a ≤ i ∧ i ≤ b)))) [.val (.int i), .val (.int a), .val (.int b)] := by
  unfold Fis_number Bis_number
  by_cases h : a ≤ i <;> simp [whole_int, h]
theorem want_int {i a b : Int} : Fwant_number [.val (.int i), .val (.int a), .val (.int b)] = if a ≤ i ∧ i ≤ b then .ok (.val (.int i)) [.val (.int i), .val (.int a), .val (.int b)] else .exc 1 [.int i] [.val (.int i), .val (.int a), .val (.int b)] := by
  unfold Fwant_number Bwant_number
  by_cases h : a ≤ i ∧ i ≤ b <;> simp [number_int, h]
theorem row_tup {l : List P} : Fis_row [.val (.tup l)] = .ok (.val (.bl true)) [.val (.tup l)] := by
  unfold Fis_row Bis_row; simp
theorem row_lst {l : List P} : Fis_row [.val (.lst l)] = .ok (.val (.bl true)) [.val (.lst l)] := by
  unfold Fis_row Bis_row; simp
theorem row_non : Fis_row [.val .non] = .ok (.val (.bl false)) [.val .non] := by
  unfold Fis_row Bis_row; simp
end PV

set_option maxHeartbeats 1000000
namespace PV
open PySem L2
/-- data of depth up to n that alike, frozen go through -/
def dep : Nat → P → Bool
  | _, .non => true
  | _, .bl _ => true
  | _, .int _ => true
  | _, .str x => PyData.strOk x
  | n + 1, .tup xs => decide (xs.length ≤ 100000) && xs.all (dep n)
  | n + 1, .lst xs => decide (xs.length ≤ 100000) && xs.all (dep n)
  | _, _ => false
theorem dep_dat : ∀ (n : Nat) (p : P), dep n p = true → dat n p = true
  | n, .non, _ => dat_non
  | n, .bl _, _ => dat_bl
  | n, .int _, _ => dat_int
  | n, .str x, h => by rw [dat_str]; cases n <;> exact h
  | 0, .tup _, h => by simp [dep] at h
  | 0, .lst _, h => by simp [dep] at h
  | n + 1, .tup xs, h => by
    simp only [dep, Bool.and_eq_true, List.all_eq_true] at h
    show xs.all (dat n) = true
    exact List.all_eq_true.mpr fun x hx => dep_dat n x (h.2 x hx)
  | n + 1, .lst xs, h => by
    simp only [dep, Bool.and_eq_true, List.all_eq_true] at h
    show xs.all (dat n) = true
    exact List.all_eq_true.mpr fun x hx => dep_dat n x (h.2 x hx)
  | n, .dct _ _ _, h => by cases n <;> simp [dep] at h
  | n, .obj _ _, h => by cases n <;> simp [dep] at h
  | n, .fn _, h => by cases n <;> simp [dep] at h
  | n, .scr _, h => by cases n <;> simp [dep] at h
  | n, .ty _, h => by cases n <;> simp [dep] at h
  | n, .cls _, h => by cases n <;> simp [dep] at h
theorem dat_mono : ∀ (n m : Nat) (p : P), n ≤ m → dat n p = true → dat m p = true
  | n, m, .non, _, _ => dat_non
  | n, m, .bl _, _, _ => dat_bl
  | n, m, .int _, _, _ => dat_int
  | n, m, .str x, _, h => by rw [dat_str] at h ⊢; exact h
  | 0, _, .tup _, _, h => by simp [dat] at h
  | 0, _, .lst _, _, h => by simp [dat] at h
  | n + 1, m + 1, .tup xs, l, h => by
    have h' : xs.all (dat n) = true := h
    show xs.all (dat m) = true
    exact List.all_eq_true.mpr fun x hx => dat_mono n m x (by omega) (List.all_eq_true.mp h' x hx)
  | n + 1, m + 1, .lst xs, l, h => by
    have h' : xs.all (dat n) = true := h
    show xs.all (dat m) = true
    exact List.all_eq_true.mpr fun x hx => dat_mono n m x (by omega) (List.all_eq_true.mp h' x hx)
  | n + 1, 0, .tup xs, l, h => by omega
  | n + 1, 0, .lst xs, l, h => by omega
  | n, m, .dct _ _ _, _, h => by cases n <;> simp [dat] at h
  | n, m, .obj _ _, _, h => by cases n <;> simp [dat] at h
  | n, m, .fn _, _, h => by cases n <;> simp [dat] at h
  | n, m, .scr _, _, h => by cases n <;> simp [dat] at h
  | n, m, .ty _, _, h => by cases n <;> simp [dat] at h
  | n, m, .cls _, _, h => by cases n <;> simp [dat] at h
theorem dep60 {n : Nat} {p : P} (h : dep n p = true) (hn : n ≤ 60) : dat 60 p = true := dat_mono n 60 p hn (dep_dat n p h)
/-! frozen -/
mutual
def fz : P → P
  | .lst ps => .tup (fzs ps)
  | .tup ps => .tup (fzs ps)
  | p => p
def fzs : List P → List P
  | [] => []
  | p :: ps => fz p :: fzs ps
end
theorem fzs_map : ∀ ps : List P, fzs ps = ps.map fz
  | [] => rfl
  | p :: ps => by rw [fzs, fzs_map ps]; rfl
@[simp] theorem fz_tup {ps : List P} : fz (.tup ps) = .tup (ps.map fz) := by rw [fz, fzs_map]
@[simp] theorem fz_lst {ps : List P} : fz (.lst ps) = .tup (ps.map fz) := by rw [fz, fzs_map]
@[simp] theorem fz_int {i : Int} : fz (.int i) = .int i := rfl
@[simp] theorem fz_non : fz .non = .non := rfl
@[simp] theorem fz_bl {b : Bool} : fz (.bl b) = .bl b := rfl
@[simp] theorem fz_str {b : Str} : fz (.str b) = .str b := rfl
theorem frozen_ok : ∀ (n : Nat) (p : P), dep n p = true → Ffrozen (n + 1) [.val p] = .ok (.val (fz p)) [.val p] := by
  have row : ∀ (n : Nat) (ps : List P) (q : P), q = .tup ps ∨ q = .lst ps → (∀ p ∈ ps, Ffrozen (n + 1) [.val p] = .ok (.val (fz p)) [.val p]) → Ffrozen (n + 2) [.val q] = .ok (.val (.tup (ps.map fz))) [.val q] := fun n ps q hq ih => by
    have hlc := lc_map (fi := itF (takeF (varF 0))) (t := nameT 1) (fe := takeF (callF (Ffrozen (n + 1)) (consF (valF (takeF (varF 1))) nilF))) (vs := [1]) (π := [.val q, .no]) (item := fun p => p) (g := fz) ps
      (by rcases hq with rfl | rfl <;> simp) (by simp [chk]) (fun a ha => ⟨[.val q, .val a], by simp [wipeE, ih a ha, chk]⟩) (by simp [restE, wipeE])
    unfold Ffrozen
    generalize Ffrozen (n + 1) = d at *
    unfold Bfrozen
    rcases hq with rfl | rfl <;> simp [hlc]
  intro n
  induction n with
  | zero =>
    intro p hp
    cases p with
    | tup ps => simp [dep] at hp
    | lst ps => simp [dep] at hp
    | non => unfold Ffrozen Bfrozen; simp
    | bl b => unfold Ffrozen Bfrozen; simp
    | int b => unfold Ffrozen Bfrozen; simp
    | str b => unfold Ffrozen Bfrozen; simp
    | _ => simp [dep] at hp
  | succ n ih =>
    intro p hp
    cases p with
    | tup ps =>
      simp only [dep, Bool.and_eq_true, List.all_eq_true] at hp
      rw [fz_tup]
      exact row n ps _ (.inl rfl) fun q hq => ih q (hp.2 q hq)
    | lst ps =>
      simp only [dep, Bool.and_eq_true, List.all_eq_true] at hp
      rw [fz_lst]
      exact row n ps _ (.inr rfl) fun q hq => ih q (hp.2 q hq)
    | non => unfold Ffrozen Bfrozen; simp
    | bl b => unfold Ffrozen Bfrozen; simp
    | int b => unfold Ffrozen Bfrozen; simp
    | str b => unfold Ffrozen Bfrozen; simp
    | _ => simp [dep] at hp
/-! alike -/
theorem alike_ok : ∀ (n : Nat) (p : P), dep n p = true → F_law_alike (n + 1) [.val p, .val p] = .ok (.val (.bl true)) [.val p, .val p] := by
  have row : ∀ (n : Nat) (ps : List P) (q : P), q = .tup ps ∨ q = .lst ps → ps.length ≤ 100000 → (∀ p ∈ ps, F_law_alike (n + 1) [.val p, .val p] = .ok (.val (.bl true)) [.val p, .val p]) → F_law_alike (n + 2) [.val q, .val q] = .ok (.val (.bl true)) [.val q, .val q] := fun n ps q hq hl ih => by
    have hix : ∀ k : Nat, k < ps.length → ixP q (.int (k : Int)) = (ps[k]?).map .val := fun k hk => by
      rcases hq with rfl | rfl <;> simp [ixT, ixL, atI_nat]
    have hlc := lc_pure (fi := rng1F (consF (calF lenP (consF (varF 1) nilF)) nilF)) (t := nameT 2) (tt := notF (tstF (callF (F_law_alike (n + 1)) (consF (binF ixP (varF 0) (varF 2)) (consF (binF ixP (varF 1) (varF 2)) nilF))))) (fe := takeF (varF 2)) (vs := [2]) (π := [.val q, .val q, .no])
      (item := fun k : Nat => P.int (k : Int)) (b := fun _ => false) (g := fun k : Nat => P.int (k : Int)) (List.range ps.length)
      (by rcases hq with rfl | rfl <;> (simp [rng_nat]; omega)) (by simp [chk]) (fun k hk => by
        have hk' : k < ps.length := List.mem_range.mp hk
        have e : ps[k]? = some ps[k] := List.getElem?_eq_getElem hk'
        have h1 := ih ps[k] (List.getElem_mem hk')
        exact ⟨[.val q, .val q, .val (.int (k : Int))], by simp [wipeE, hix k hk', e, h1, chk]⟩) (by simp [restE, wipeE])
    have e0 : (List.range ps.length).filter (fun _ => false) = [] := by simp
    rw [e0, List.map_nil] at hlc
    unfold F_law_alike
    generalize F_law_alike (n + 1) = d at *
    unfold B_law_alike
    rcases hq with rfl | rfl <;> simp [hlc]
  have at0 : ∀ (n : Nat) (p : P), (match p with | .non => true | .bl _ => true | .int _ => true | .str x => PyData.strOk x | _ => false) = true → F_law_alike (n + 1) [.val p, .val p] = .ok (.val (.bl true)) [.val p, .val p] := fun n p hp => by
    cases p with
    | non => unfold F_law_alike B_law_alike; simp
    | bl b => unfold F_law_alike B_law_alike; simp
    | int b => unfold F_law_alike B_law_alike; simp
    | str b =>
      have e : eqP (.str b) (.str b) = some (.val (.bl true)) := eqP_rf (by rw [dat_str]; exact hp)
      unfold F_law_alike B_law_alike; simp [e]
    | _ => cases hp
  intro n
  induction n with
  | zero =>
    intro p hp
    refine at0 0 p ?_
    cases p <;> first | rfl | exact hp | simp [dep] at hp
  | succ n ih =>
    intro p hp
    cases p with
    | tup ps =>
      simp only [dep, Bool.and_eq_true, List.all_eq_true, decide_eq_true_eq] at hp
      exact row n ps _ (.inl rfl) hp.1 fun q hq => ih q (hp.2 q hq)
    | lst ps =>
      simp only [dep, Bool.and_eq_true, List.all_eq_true, decide_eq_true_eq] at hp
      exact row n ps _ (.inr rfl) hp.1 fun q hq => ih q (hp.2 q hq)
    | non => exact at0 _ _ rfl
    | bl b => exact at0 _ _ rfl
    | int b => exact at0 _ _ rfl
    | str b => exact at0 _ _ hp
    | _ => simp [dep] at hp
theorem truth_ok {b : Bool} : F_law_truth [.val (.bl b), .val (.bl b)] = .ok (.val (.bl true)) [.val (.bl b), .val (.bl b)] := by
  unfold F_law_truth B_law_truth; simp
end PV

set_option maxHeartbeats 2000000
namespace PV
open PySem L2
/-! ### draws -/
def Row (ns : List Int) (o : List P) : Prop := ∃ i s r : Int, o = [.scr ns, .int i, .int s, .int r] ∧ 0 ≤ i ∧ (0 ≤ s ∧ s < 2147483647) ∧ 0 ≤ r
@[simp] theorem ixN1 : ixN 4 1 = some 1 := by decide
@[simp] theorem ixN2 : ixN 4 2 = some 2 := by decide
@[simp] theorem ixN3 : ixN 4 3 = some 3 := by decide
theorem taken_ok {ns : List Int} {o : List P} {m : Int} (h : Row ns o) (hm : 1 ≤ m) (hs : Sm m) : ∃ v o', (0 ≤ v ∧ v < m) ∧ Row ns o' ∧ F_law_taken [.loan (.lst o), .val (.int m)] = .ok (.val (.int v)) [.loan (.lst o'), .val (.int m)] := by
  obtain ⟨i, s, r, rfl, hi, hs2, hr⟩ := h
  have hm0 : 0 < m := by omega
  have v0 : ∀ x : Int, 0 ≤ x % m ∧ x % m < m := fun x => ⟨Int.emod_nonneg x (by omega), Int.emod_lt_of_pos x hm0⟩
  have s7 : Sm 7 := by unfold Sm; omega
  have sS : Sm s := by unfold Sm; omega
  have s48 : Sm 48271 := by unfold Sm; omega
  unfold F_law_taken B_law_taken
  by_cases z : 0 < r
  · refine ⟨r % m, [.scr ns, .int i, .int s, .int (r / m)], v0 _, ⟨i, s, r / m, rfl, hi, hs2, Int.ediv_nonneg (by omega) (by omega)⟩, ?_⟩
    simp [ixL, z, modP_pos hm0, fdivP_sm hs hm0]
  · by_cases y : (ns.length : Int) < i + 1
    · refine ⟨((s * 48271 + 11) % 2147483647 / 7) % m, [.scr ns, .int (i + 1), .int ((s * 48271 + 11) % 2147483647), .int r], v0 _, ⟨_, _, _, rfl, by omega, ⟨Int.emod_nonneg _ (by omega), Int.emod_lt_of_pos _ (by omega)⟩, hr⟩, ?_⟩
      simp [ixL, z, y, modP_pos hm0, modP_pos (show (0 : Int) < 2147483647 by omega), fdivP_sm s7 (by omega), mulP_sm sS s48]
    · obtain ⟨cell, hc⟩ : ∃ c, ns[i.toNat]? = some c := ⟨_, List.getElem?_eq_getElem (by omega)⟩
      have hix : ixP (.scr ns) (.int i) = some (.val (.int cell)) := by rw [ixS, atI_pos hi, hc]; rfl
      have hpow : powP (.int 10) (.int 18) = some (.val (.int 1000000000000000000)) := by simp [powP, ii]
      by_cases x : (1000000000000000000 : Int) ≤ cell
      · refine ⟨cell % m, [.scr ns, .int (i + 1), .int ((s * 48271 + cell + 11) % 2147483647), .int (cell / m)], v0 _, ⟨_, _, _, rfl, by omega, ⟨Int.emod_nonneg _ (by omega), Int.emod_lt_of_pos _ (by omega)⟩, Int.ediv_nonneg (by omega) (by omega)⟩, ?_⟩
        simp [ixL, z, y, hix, hpow, x, modP_pos hm0, modP_pos (show (0 : Int) < 2147483647 by omega), fdivP_sm hs hm0, mulP_sm sS s48]
      · refine ⟨cell % m, [.scr ns, .int (i + 1), .int ((s * 48271 + cell + 11) % 2147483647), .int r], v0 _, ⟨_, _, _, rfl, by omega, ⟨Int.emod_nonneg _ (by omega), Int.emod_lt_of_pos _ (by omega)⟩, hr⟩, ?_⟩
        simp [ixL, z, y, hix, hpow, x, modP_pos hm0, modP_pos (show (0 : Int) < 2147483647 by omega), fdivP_sm hs hm0, mulP_sm sS s48]
/-! one lent argument, one value -/
def toRs (π : En) (rs : List Rs) (x : Out Rv) : Out Rs := match x with
  | .ok r as => .ok r.rs (storeA π rs as)
  | .exc C ps as => .exc C ps (storeA π rs as)
  | .bad => .bad
@[simp] theorem toRs_ok {π : En} {rs : List Rs} {r : Rv} {as : List Sl} : toRs π rs (.ok r as) = .ok r.rs (storeA π rs as) := rfl
theorem storeB {π : En} {i : Nat} {m : P} {o o0 : O} {y : Sl} (h : π[i]? = some (.own o0)) : storeA π [.bor i, .val m] [.loan o, y] = π.set i (.own o) := by
  apply List.ext_getElem?
  intro j
  have hi := (List.getElem?_eq_some_iff.mp h).1
  rw [store_get]
  by_cases z : i = j
  · subst z
    rw [h, List.getElem?_set_self hi]
    show some (match (if i = i then some o else _) with | some o => (Sl.own o0).put o | none => _) = _
    rw [if_pos rfl]; rfl
  · rw [List.getElem?_set_ne z]
    have : findL j [.bor i, .val m] [.loan o, y] = none := by
      show (if i = j then some o else _) = none
      rw [if_neg z]
      cases y <;> rfl
    rw [this]
    cases π[j]? <;> rfl
theorem callR_bv {Fn : FN} {π : En} {i : Nat} {m : P} {o : O} (h : π[i]? = some (.own o)) : callR Fn [.bor i, .val m] π = toRs π [.bor i, .val m] (Fn [.loan o, .val m]) := by
  unfold callR
  have e : loads π [.bor i, .val m] = some [.loan o, .val m] := by simp [loads, loadR, h]
  rw [e]
  have e2 : ([Rs.bor i, Rs.val m].filterMap borIx) = [i] := rfl
  simp only [e2, List.nodup_cons, List.not_mem_nil, not_false_eq_true, List.nodup_nil, and_self, if_true]
  rfl
/-- the same, the first argument lent on -/
theorem storeBl {π : En} {i : Nat} {m : P} {o o0 : O} {y : Sl} (h : π[i]? = some (.loan o0)) : storeA π [.bor i, .val m] [.loan o, y] = π.set i (.loan o) := by
  apply List.ext_getElem?
  intro j
  have hi := (List.getElem?_eq_some_iff.mp h).1
  rw [store_get]
  by_cases z : i = j
  · subst z
    rw [h, List.getElem?_set_self hi]
    show some (match (if i = i then some o else _) with | some o => (Sl.loan o0).put o | none => _) = _
    rw [if_pos rfl]; rfl
  · rw [List.getElem?_set_ne z]
    have : findL j [.bor i, .val m] [.loan o, y] = none := by
      show (if i = j then some o else _) = none
      rw [if_neg z]
      cases y <;> rfl
    rw [this]
    cases π[j]? <;> rfl
theorem callR_lv {Fn : FN} {π : En} {i : Nat} {m : P} {o : O} (h : π[i]? = some (.loan o)) : callR Fn [.bor i, .val m] π = toRs π [.bor i, .val m] (Fn [.loan o, .val m]) := by
  unfold callR
  have e : loads π [.bor i, .val m] = some [.loan o, .val m] := by simp [loads, loadR, h]
  rw [e]
  have e2 : ([Rs.bor i, Rs.val m].filterMap borIx) = [i] := rfl
  simp only [e2, List.nodup_cons, List.not_mem_nil, not_false_eq_true, List.nodup_nil, and_self, if_true]
  rfl
/-- a draw, at any place -/
theorem draw {ns : List Int} {o : List P} {m : Int} {π : En} {i : Nat} (h : Row ns o) (hm : 1 ≤ m) (hs : Sm m) (hπ : π[i]? = some (.own (.lst o))) :
    ∃ v o', (0 ≤ v ∧ v < m) ∧ Row ns o' ∧ callR F_law_taken [.bor i, .val (.int m)] π = .ok (.val (.int v)) (π.set i (.own (.lst o'))) := by
  obtain ⟨v, o', hv, ho, e⟩ := taken_ok h hm hs
  refine ⟨v, o', hv, ho, ?_⟩
  rw [callR_bv hπ, e, toRs_ok, storeB hπ]; rfl
theorem drawl {ns : List Int} {o : List P} {m : Int} {π : En} {i : Nat} (h : Row ns o) (hm : 1 ≤ m) (hs : Sm m) (hπ : π[i]? = some (.loan (.lst o))) :
    ∃ v o', (0 ≤ v ∧ v < m) ∧ Row ns o' ∧ callR F_law_taken [.bor i, .val (.int m)] π = .ok (.val (.int v)) (π.set i (.loan (.lst o'))) := by
  obtain ⟨v, o', hv, ho, e⟩ := taken_ok h hm hs
  refine ⟨v, o', hv, ho, ?_⟩
  rw [callR_lv hπ, e, toRs_ok, storeBl hπ]; rfl
/-- one of some kinds -/
theorem pickF {ns : List Int} {o : List P} {ks : List P} {kp : P} (h : Row ns o) (hk : kp = .lst ks ∨ kp = .tup ks) (h0 : 0 < ks.length) (hl : ks.length ≤ 1000000) :
    ∃ p o', p ∈ ks ∧ Row ns o' ∧ F_law_pick [.loan (.lst o), .val kp] = .ok (.val p) [.loan (.lst o'), .val kp] := by
  obtain ⟨v, o', hv, ho, e⟩ := drawl (π := [.loan (.lst o), .val kp]) (i := 0) (m := (ks.length : Int)) h (by omega) (by unfold Sm; omega) rfl
  have e1 : ks[v.toNat]? = some (ks[v.toNat]'(by omega)) := List.getElem?_eq_getElem (by omega)
  refine ⟨ks[v.toNat]'(by omega), o', List.getElem_mem _, ho, ?_⟩
  unfold F_law_pick B_law_pick
  rcases hk with rfl | rfl <;> simp [e, ixL, ixT, atI_pos hv.1, e1]
theorem pick {ns : List Int} {o : List P} {ks : List P} {kp : P} {π : En} {i : Nat} (h : Row ns o) (hk : kp = .lst ks ∨ kp = .tup ks) (h0 : 0 < ks.length) (hl : ks.length ≤ 1000000) (hπ : π[i]? = some (.own (.lst o))) :
    ∃ p o', p ∈ ks ∧ Row ns o' ∧ callR F_law_pick [.bor i, .val kp] π = .ok (.val p) (π.set i (.own (.lst o'))) := by
  obtain ⟨p, o', hp, ho, e⟩ := pickF h hk h0 hl
  refine ⟨p, o', hp, ho, ?_⟩
  rw [callR_bv hπ, e, toRs_ok, storeB hπ]; rfl
/-- a list or a tuple -/
def mixR (b : Bool) (ps : List P) : Rs := if b = true then .own (.lst ps) else .val (.tup ps)
theorem mixF {ns : List Int} {o : List P} {ks : List P} {kp : P} (h : Row ns o) (hk : kp = .lst ks ∨ kp = .tup ks) :
    ∃ b o', Row ns o' ∧ F_law_mixed [.loan (.lst o), .val kp] = .ok (if b = true then .own (.lst ks) else .val (.tup ks)) [.loan (.lst o'), .val kp] := by
  obtain ⟨v, o', hv, ho, e⟩ := drawl (π := [.loan (.lst o), .val kp]) (i := 0) (m := 2) h (by omega) (by unfold Sm; omega) rfl
  refine ⟨decide (v = 0), o', ho, ?_⟩
  unfold F_law_mixed B_law_mixed
  by_cases z : v = 0
  · rcases hk with rfl | rfl <;> simp [e, z]
  · rcases hk with rfl | rfl <;> simp [e, z]
theorem mix {ns : List Int} {o : List P} {ks : List P} {kp : P} {π : En} {i : Nat} (h : Row ns o) (hk : kp = .lst ks ∨ kp = .tup ks) (hπ : π[i]? = some (.own (.lst o))) :
    ∃ b o', Row ns o' ∧ callR F_law_mixed [.bor i, .val kp] π = .ok (mixR b ks) (π.set i (.own (.lst o'))) := by
  obtain ⟨b, o', ho, e⟩ := mixF h hk
  refine ⟨b, o', ho, ?_⟩
  rw [callR_bv hπ, e, toRs_ok, storeB hπ]
  cases b <;> rfl
/-- taken, it is one of the two -/
def mixP (b : Bool) (ps : List P) : P := if b = true then .lst ps else .tup ps
@[simp] theorem take_mix {b : Bool} {ps : List P} {π : En} : takeR (mixR b ps) π = .ok (mixP b ps) π := by cases b <;> rfl
@[simp] theorem rd_mix {b : Bool} {ps : List P} {π : En} : rdP π (mixR b ps) = some (mixP b ps) := by cases b <;> rfl
@[simp] theorem fz_mix {b : Bool} {ps : List P} : fz (mixP b ps) = .tup (ps.map fz) := by cases b <;> simp [mixP]
theorem mixP_or (b : Bool) (ps : List P) : mixP b ps = .lst ps ∨ mixP b ps = .tup ps := by cases b <;> simp [mixP]
end PV

set_option maxHeartbeats 2000000
namespace PV
open PySem L2
theorem enumP_map : ∀ (k : Nat) (ps : List P), enumP k ps = (ps.zipIdx k).map fun x => P.tup [.int (x.2 : Nat), x.1]
  | _, [] => rfl
  | k, p :: ps => by
    rw [List.zipIdx_cons, List.map_cons, ← enumP_map (k + 1) ps]; rfl
/-! want_row -/
section
variable {ok : P → Bool} {rows : List P} {rp : P} {m : Int}
theorem row_rp (hr : rp = .lst rows ∨ rp = .tup rows) : Fis_row [.val rp] = .ok (.val (.bl true)) [.val rp] := by
  rcases hr with rfl | rfl
  · exact row_lst
  · exact row_tup
theorem want_loop (hr : rp = .lst rows ∨ rp = .tup rows) (hf : ∀ p ∈ rows, Fis_leg [.val p] = .ok (.val (.bl (ok p))) [.val p]) :
    fr_want_row_1 [.val rp, .val (.fn 0), .val (.int m), .no, .no]
      = fndR (fun x => .exc 2 [.int (x.2 : Nat)] [.val rp, .val (.fn 0), .val (.int m), .val (.int (x.2 : Nat)), .val x.1])
          (.ok .nx [.val rp, .val (.fn 0), .val (.int m), ops .no (fun x => .int (x.2 : Nat)) (lastO none rows.zipIdx), ops .no (fun x => x.1) (lastO none rows.zipIdx)]) (rows.zipIdx.find? (fun x => !ok x.1)) := by
  have hsrc : enumAF (consV (takeF (varF 0)) (nilV)) [.val rp, .val (.fn 0), .val (.int m), .no, .no] = .ok (rows.zipIdx.map fun x => P.tup [.int (x.2 : Nat), x.1]) [.val rp, .val (.fn 0), .val (.int m), .no, .no] := by
    rw [← enumP_map]
    rcases hr with rfl | rfl <;> simp
  unfold fr_want_row_1
  rw [e_for, hsrc, e_bok]
  refine (loop_find (fun o => [.val rp, .val (.fn 0), .val (.int m), ops .no (fun x => .int (x.2 : Nat)) o, ops .no (fun x => x.1) o]) (fun x => P.tup [.int (x.2 : Nat), x.1]) (fun x => !ok x.1)
    (fun x => .exc 2 [.int (x.2 : Nat)] [.val rp, .val (.fn 0), .val (.int m), .val (.int (x.2 : Nat)), .val x.1]) rows.zipIdx ?_ ?_ none)
  · intro x hx hp o
    have hm : x.1 ∈ rows := by
      have := List.mem_zipIdx hx
      simp only [Nat.zero_add, Nat.sub_zero] at this
      rw [this.2.2]; exact List.getElem_mem _
    have h1 := hf _ hm
    have hp' : ok x.1 = true := by simpa using hp
    refine ⟨[.val rp, .val (.fn 0), .val (.int m), .val (.int (x.2 : Nat)), .val x.1], by simp, ?_⟩
    simp [callVF, h1, hp', ops]
  · intro x hx hp o
    have hm : x.1 ∈ rows := by
      have := List.mem_zipIdx hx
      simp only [Nat.zero_add, Nat.sub_zero] at this
      rw [this.2.2]; exact List.getElem_mem _
    have h1 := hf _ hm
    have hp' : ok x.1 = false := by simpa using hp
    refine ⟨[.val rp, .val (.fn 0), .val (.int m), .val (.int (x.2 : Nat)), .val x.1], by simp, ?_, .inr ⟨_, _, _, rfl⟩⟩
    simp [callVF, h1, hp']
theorem want_all (hr : rp = .lst rows ∨ rp = .tup rows) (hf : ∀ p ∈ rows, Fis_leg [.val p] = .ok (.val (.bl true)) [.val p]) (hd : dep 4 rp = true) (hm : (rows.length : Int) ≤ m) :
    Fwant_row [.val rp, .val (.fn 0), .val (.int m)] = .ok (.val (.tup (rows.map fz))) [.val rp, .val (.fn 0), .val (.int m)] := by
  have hl := want_loop (ok := fun _ => true) (m := m) hr hf
  have hz := frozen_ok 4 rp hd
  have hn : rows.zipIdx.find? (fun x => !(fun _ => true) x.1) = none := by simp
  rw [hn] at hl
  simp only [fndR] at hl
  have e : lenP [rp] = some (.val (.int rows.length)) := by rcases hr with rfl | rfl <;> rfl
  have ef : fz rp = .tup (rows.map fz) := by rcases hr with rfl | rfl <;> simp
  have hm' : ¬ m < (rows.length : Int) := by omega
  unfold Fwant_row Bwant_row
  simp [hl, row_rp hr, e, hm', hz, ef]
theorem want_bad (hr : rp = .lst rows ∨ rp = .tup rows) (hf : ∀ p ∈ rows, Fis_leg [.val p] = .ok (.val (.bl (ok p))) [.val p]) {k : Nat} {b : P} (hk : rows[k]? = some b) (hb : ok b = false) (hp : ∀ j : Nat, j < k → ∀ p, rows[j]? = some p → ok p = true) :
    Fwant_row [.val rp, .val (.fn 0), .val (.int m)] = .exc 2 [.int k] [.val rp, .val (.fn 0), .val (.int m)] := by
  have hl := want_loop (ok := ok) (m := m) hr hf
  have hn : rows.zipIdx.find? (fun x => !ok x.1) = some (b, k) := by
    rw [List.find?_eq_some_iff_getElem]
    have hk' := (List.getElem?_eq_some_iff.mp hk)
    obtain ⟨h1, h2⟩ := hk'
    refine ⟨by simp [hb], k, by simpa using h1, by simp [h2], fun j hj => ?_⟩
    have hj' : j < rows.length := by omega
    have := hp j hj rows[j] (List.getElem?_eq_getElem hj')
    simp [this]
  rw [hn] at hl
  simp only [fndR] at hl
  unfold Fwant_row Bwant_row
  simp [hl, row_rp hr]
theorem want_non : Fwant_row [.val .non, .val (.fn 0), .val (.int m)] = .exc 2 [.non] [.val .non, .val (.fn 0), .val (.int m)] := by
  unfold Fwant_row Bwant_row
  simp [row_non]
theorem want_many (hr : rp = .lst rows ∨ rp = .tup rows) (hf : ∀ p ∈ rows, Fis_leg [.val p] = .ok (.val (.bl true)) [.val p]) (hm : m < (rows.length : Int)) :
    Fwant_row [.val rp, .val (.fn 0), .val (.int m)] = .exc 3 [.int m] [.val rp, .val (.fn 0), .val (.int m)] := by
  have hl := want_loop (ok := fun _ => true) (m := m) hr hf
  have hn : rows.zipIdx.find? (fun x => !(fun _ => true) x.1) = none := by simp
  rw [hn] at hl
  simp only [fndR] at hl
  have e : lenP [rp] = some (.val (.int rows.length)) := by rcases hr with rfl | rfl <;> rfl
  unfold Fwant_row Bwant_row
  simp [hl, row_rp hr, e, hm]
end
end PV

set_option maxHeartbeats 2000000
namespace PV
open PySem L2
/-! ### names -/
def AL : List Nat := (List.range 26).map (· + 97)
def FG : List Nat := (List.range 10).map (· + 48)
theorem cLet : ("abcdefghijklmnopqrstuvwxyz" : Str) = tx AL := by decide +kernel
theorem cFig : ("0123456789" : Str) = tx FG := by decide +kernel
theorem cSig : ("abcdefghijklmnopqrstuvwxyz0123456789" : Str) = tx (AL ++ FG) := by decide +kernel
theorem al_len : AL.length = 26 := rfl
theorem fg_len : FG.length = 10 := rfl
/-- a name -/
def okN (l : List Nat) : Prop := 1 ≤ l.length ∧ l.length ≤ 12 ∧ (∃ h t, l = h :: t ∧ h ∈ AL) ∧ ∀ n ∈ l, n ∈ AL ∨ n ∈ FG
def nP' (l : List Nat) : P := .str (tx l)
theorem sig_lt : ∀ n ∈ AL ++ FG, n < 1114112 := by decide
theorem okN_lt {l : List Nat} (h : okN l) : ∀ n ∈ l, n < 1114112 := fun n hn => sig_lt n (by rw [List.mem_append]; exact h.2.2.2 n hn)
theorem strOk_tx {l : List Nat} (h : ∀ n ∈ l, n < 1114112) : PyData.strOk (tx l) = true := by
  unfold PyData.strOk
  rw [Array.all_eq_true_iff_forall_mem]
  intro x hx
  exact decide_eq_true (h x (by simpa [tx] using hx))
theorem strOk_N {l : List Nat} (h : okN l) : PyData.strOk (tx l) = true := strOk_tx (okN_lt h)
section
variable {ns : List Int} {o : List P}
theorem atA {v : Int} {m : List Nat} (h0 : 0 ≤ v) (h1 : v < m.length) : ∃ n, n ∈ m ∧ atI m v = some n := by
  rw [atI_pos h0]
  exact ⟨m[v.toNat]'(by omega), List.getElem_mem _, List.getElem?_eq_getElem (by omega)⟩
theorem name_ok (h : Row ns o) : ∃ l o', okN l ∧ Row ns o' ∧ F_law_name [.loan (.lst o)] = .ok (.val (nP' l)) [.loan (.lst o')] := by
  have hp := pickF (ks := [.int 1, .int 1, .int 2, .int 3, .int 5, .int 12]) (kp := .lst [.int 1, .int 1, .int 2, .int 3, .int 5, .int 12]) h (.inl rfl) (by simp) (by simp)
  obtain ⟨sz, o1, hsz, h1, e1⟩ := hp
  obtain ⟨z, hz, rfl⟩ : ∃ z : Int, (1 ≤ z ∧ z ≤ 12) ∧ sz = .int z := by
    simp only [List.mem_cons, List.not_mem_nil, or_false] at hsz
    rcases hsz with rfl | rfl | rfl | rfl | rfl | rfl <;> exact ⟨_, by omega, rfl⟩
  have e1' : callR F_law_pick [.bor 0, .val (.lst [.int 1, .int 1, .int 2, .int 3, .int 5, .int 12])] [.loan (.lst o), .val (.str (tx (AL ++ FG))), .no, .no, .no] = .ok (.val (.int z)) [.loan (.lst o1), .val (.str (tx (AL ++ FG))), .no, .no, .no] := by
    rw [callR_lv rfl, e1, toRs_ok, storeBl rfl]; rfl
  obtain ⟨v, o2, hv, h2, e2⟩ := drawl (π := [.loan (.lst o1), .val (.str (tx (AL ++ FG))), .val (.int z), .no, .no]) (i := 0) (m := 26) h1 (by omega) (by unfold Sm; omega) rfl
  obtain ⟨n, hn, e3⟩ : ∃ n, n ∈ AL ∧ atI (AL ++ FG) v = some n := by
    obtain ⟨n, hn, e⟩ := atA (m := AL) hv.1 (by rw [al_len]; omega)
    refine ⟨n, hn, ?_⟩
    rw [atI_pos hv.1] at e ⊢
    rw [List.getElem?_append_left (by rw [al_len]; omega), e]
  obtain ⟨π', k1, k2⟩ := loop_inv (t := nameT 4) (fb := setF 3 (binF addP (varF 3) (binF ixP (varF 1) (callF (F_law_taken) (consF (varF 0) (consF (cF (.int 36)) (nilF))))))) (fun (k : Nat) => P.int (k : Int))
    (fun d π => ∃ l o' s, (l.length = d.length + 1 ∧ (∃ t, l = n :: t) ∧ ∀ x ∈ l, x ∈ AL ∨ x ∈ FG) ∧ Row ns o' ∧ slLo s = false ∧ π = [.loan (.lst o'), .val (.str (tx (AL ++ FG))), .val (.int z), .val (.str (tx l)), s])
    (List.range (z - 1).toNat) (fun d a r π hd ⟨l, o', s, hl, ho, hs, e⟩ => by
      subst e
      obtain ⟨v, o2, hv, h2, e2⟩ := drawl (π := [.loan (.lst o'), .val (.str (tx (AL ++ FG))), .val (.int z), .val (.str (tx l)), .val (.int (a : Int))]) (i := 0) (m := 36) ho (by omega) (by unfold Sm; omega) rfl
      obtain ⟨m, hm, e3⟩ := atA (m := AL ++ FG) hv.1 (by rw [List.length_append, al_len, fg_len]; omega)
      have hlen : d.length < (z - 1).toNat := by
        have := congrArg List.length hd
        simp at this
        omega
      refine ⟨[.loan (.lst o'), .val (.str (tx (AL ++ FG))), .val (.int z), .val (.str (tx l)), .val (.int (a : Int))], [.loan (.lst o2), .val (.str (tx (AL ++ FG))), .val (.int z), .val (.str (tx (l ++ [m]))), .val (.int (a : Int))], by simp [hs], ?_, l ++ [m], o2, _, ⟨by simp [hl.1], ?_, ?_⟩, h2, rfl, rfl⟩
      · have hc : ixP (.str (tx (AL ++ FG))) (.int v) = some (.val (.str (tx [m]))) := by rw [ixTx (by rw [List.length_append, al_len, fg_len]; omega), e3]; rfl
        have ha : addP (.str (tx l)) (.str (tx [m])) = some (.val (.str (tx (l ++ [m])))) := addTx (by rw [hl.1]; simp; omega)
        simp [e2, hc, ha]
      · obtain ⟨t, ht⟩ := hl.2.1
        exact ⟨t ++ [m], by rw [ht]; rfl⟩
      · intro x hx
        rw [List.mem_append] at hx
        rcases hx with hx | hx
        · exact hl.2.2 x hx
        · rw [List.mem_singleton] at hx; subst hx
          exact List.mem_append.mp hm)
    [.loan (.lst o2), .val (.str (tx (AL ++ FG))), .val (.int z), .val (.str (tx [n])), .no] ⟨[n], o2, _, ⟨rfl, ⟨[], rfl⟩, fun x hx => by rw [List.mem_singleton] at hx; subst hx; exact .inl hn⟩, h2, rfl, rfl⟩
  obtain ⟨l, o3, s, hl, h3, hs, rfl⟩ := k2
  have hlz : l.length = (z - 1).toNat + 1 := by rw [hl.1]; simp
  refine ⟨l, o3, ⟨by omega, by omega, ?_, hl.2.2⟩, h3, ?_⟩
  · obtain ⟨t, ht⟩ := hl.2.1
    exact ⟨n, t, ht, hn⟩
  have hc : ixP (.str (tx (AL ++ FG))) (.int v) = some (.val (.str (tx [n]))) := by rw [ixTx (by rw [List.length_append, al_len, fg_len]; omega), e3]; rfl
  unfold F_law_name B_law_name fr__law_name_1
  rw [cSig]
  have hz1 : -8000000 ≤ z - 1 ∧ z - 1 ≤ 8000000 := by omega
  rw [show (z - 1).toNat = z.toNat - 1 by omega] at k1
  simp [e1', e2, hc, e_for, hz1, rng_pos, k1, nP']
end
end PV

set_option maxHeartbeats 2000000
namespace PV
open PySem L2
def dgs (t : Nat) : List Nat := if t < 10 then [48 + t] else if t < 100 then [48 + t / 10, 48 + t % 10] else [48 + t / 100, 48 + t / 10 % 10, 48 + t % 10]
theorem dg_inj (t u : Nat) (ht : t < 400) (hu : u < 400) (e : dgs t = dgs u) : t = u := by
  unfold dgs at e
  split at e <;> split at e <;> (try split at e) <;> (try split at e) <;> simp at e <;> omega
theorem fg_mem {n : Nat} (h : n < 10) : 48 + n ∈ FG := List.mem_map.mpr ⟨n, List.mem_range.mpr h, by omega⟩
theorem dg_fg (t : Nat) (ht : t < 400) : ∀ n ∈ dgs t, n ∈ FG := by
  intro n hn
  unfold dgs at hn
  split at hn
  · simp at hn; subst hn; exact fg_mem (by omega)
  · split at hn <;> simp at hn
    · rcases hn with rfl | rfl <;> exact fg_mem (by omega)
    · rcases hn with rfl | rfl | rfl <;> exact fg_mem (by omega)
theorem dg_len (t : Nat) : 1 ≤ (dgs t).length ∧ (dgs t).length ≤ 3 ∧ (t < 100 → (dgs t).length ≤ 2) := by
  unfold dgs
  split
  · simp
  · split
    · simp
    · simp; omega
theorem pigeon {α : Type} [DecidableEq α] : ∀ S F : List α, S.Nodup → (∀ x ∈ S, x ∈ F) → S.length ≤ F.length
  | [], F, _, _ => by simp
  | a :: S, F, hn, h => by
    rw [List.nodup_cons] at hn
    have h1 := pigeon S (F.erase a) hn.2 fun x hx => (List.mem_erase_of_ne (fun e => by subst e; exact hn.1 hx)).mpr (h x (List.mem_cons_of_mem _ hx))
    have h2 := List.length_erase_of_mem (h a List.mem_cons_self)
    have h3 : 0 < F.length := List.length_pos_of_mem (h a List.mem_cons_self)
    simp; omega
theorem dg_all : (List.range 400).all (fun t => decide ((toString ((t : Nat) : Int)).toList.map Char.toNat = dgs t)) = true := by decide +kernel
theorem str_dgs (t : Nat) (ht : t < 400) : strP [.int (t : Int)] = some (.val (.str (tx (dgs t)))) := by
  have h := List.all_eq_true.mp dg_all t (List.mem_range.mpr ht)
  have h2 := of_decide_eq_true h
  have h3 : (t : Int).natAbs.log2 < 1920 := by
    have := Nat.log2_le_self t
    show t.log2 < 1920
    omega
  unfold strP
  simp only
  rw [if_pos h3, ← h2, Str.ofString_eq_toList]
  rfl
/-! ### names, many -/
def spare (l : List Nat) : List (List Nat) := l :: (List.range 100).map fun t => l.take 9 ++ dgs t
theorem okN_spare {l m : List Nat} (h : okN l) (hm : m ∈ spare l) : okN m := by
  unfold spare at hm
  rw [List.mem_cons] at hm
  rcases hm with rfl | hm
  · exact h
  rw [List.mem_map] at hm
  obtain ⟨t, ht, rfl⟩ := hm
  rw [List.mem_range] at ht
  obtain ⟨h1, h2, ⟨a, b, rfl, ha⟩, h4⟩ := h
  have hd := dg_len t
  refine ⟨by simp, ?_, ⟨a, b.take 8 ++ dgs t, rfl, ha⟩, ?_⟩
  · have : (List.take 9 (a :: b)).length ≤ 9 := List.length_take_le _ _
    rw [List.length_append]; have := hd.2.2 ht; omega
  · intro n hn
    rw [List.mem_append] at hn
    rcases hn with hn | hn
    · exact h4 n (List.mem_of_mem_take hn)
    · exact .inr (dg_fg t (by omega) n hn)
theorem spare_new {l : List Nat} {F : List (List Nat)} (hF : F.length < 100) : ∃ m r, (spare l).filter (fun x => !decide (x ∈ F)) = m :: r := by
  cases e : (spare l).filter (fun x => !decide (x ∈ F)) with
  | cons m r => exact ⟨m, r, rfl⟩
  | nil =>
    rw [List.filter_eq_nil_iff] at e
    have hn : ((List.range 100).map fun t => l.take 9 ++ dgs t).Nodup := by
      rw [List.nodup_iff_pairwise_ne, List.pairwise_map]
      refine List.Pairwise.imp_of_mem (fun {a b} ha hb hab q => hab ?_) List.nodup_range
      rw [List.mem_range] at ha hb
      exact dg_inj a b (by omega) (by omega) (List.append_cancel_left q)
    have := pigeon _ F hn fun x hx => by
      have := e x (List.mem_cons_of_mem _ hx)
      simpa using this
    simp at this
    omega
end PV

set_option maxHeartbeats 2000000
namespace PV
open PySem L2
theorem dat_N {n : Nat} {l : List Nat} (h : okN l) : dat n (nP' l) = true := by unfold nP'; rw [dat_str]; exact strOk_N h
theorem eqv_N (l m : List Nat) : eqv (nP' l) (nP' m) = decide (l = m) := eqv_tx l m
theorem dat_Ns {n : Nat} {L : List (List Nat)} (h : ∀ l ∈ L, okN l) : (L.map nP').all (dat n) = true := by
  rw [List.all_eq_true]
  intro p hp
  obtain ⟨l, hl, rfl⟩ := List.mem_map.mp hp
  exact dat_N (h l hl)
theorem any_N {l : List Nat} {F : List (List Nat)} : (F.map nP').any (fun z => eqv z (nP' l)) = decide (l ∈ F) := by
  rw [List.any_map]
  by_cases e : l ∈ F
  · rw [decide_eq_true e, List.any_eq_true]
    exact ⟨l, e, by simp [eqv_N]⟩
  · rw [decide_eq_false e, List.any_eq_false]
    intro x hx
    simp only [Function.comp_apply, eqv_N, decide_eq_true_eq]
    exact fun q => e (q ▸ hx)
theorem inN {l : List Nat} {F : List (List Nat)} (b : Bool) (hl : okN l) (hF : ∀ l ∈ F, okN l) : inXP b (nP' l) (.lst (F.map nP')) = some (.val (.bl (if b = true then !decide (l ∈ F) else decide (l ∈ F)))) := by
  rw [inXL]
  show (if dat 60 (nP' l) = true ∧ dat 60 (.lst (F.map nP')) = true then _ else _) = _
  rw [if_pos ⟨dat_N hl, by rw [dat60l]; exact dat_Ns hF⟩, any_N]
  try rfl
theorem cut9 {l : List Nat} (h : okN l) : slTP (.str (tx l)) none (some 9) = some (.val (.str (tx (l.take 9)))) := by
  show (if (tx l).length ≤ 1000000 then _ else _) = _
  rw [if_pos (show (tx l).length ≤ 1000000 from by have := h.2.1; rw [tx_len]; omega)]
  congr 3
  unfold cutS tx
  have e1 : HT.sIx l.length 0 none = 0 := rfl
  have e2 : HT.sIx l.length l.length (some 9) = min 9 l.length := sIx_pos (by omega)
  show (⟨((l.drop (HT.sIx l.length 0 none)).take (HT.sIx l.length l.length (some 9) - HT.sIx l.length 0 none)).toArray⟩ : Str) = _
  rw [e1, e2, List.drop_zero, Nat.sub_zero]
  congr 2
  by_cases q : 9 ≤ l.length
  · rw [Nat.min_eq_left q]
  · rw [Nat.min_eq_right (by omega), List.take_of_length_le (by omega), List.take_of_length_le (by omega)]
section
variable {ns : List Int} {o : List P} {l : List Nat} {F : List (List Nat)} {s0 s1 s2 s3 s4 s5 s6 s7 : Sl}
theorem sp_ok (h : okN l) : lc__law_names_1 [s0, s1, s2, s3, .val (nP' l), s5, .no, .no] = .ok (.own (.lst ((List.range 100).map fun t => nP' (l.take 9 ++ dgs t)))) [s0, s1, s2, s3, .val (nP' l), s5, .no, .no] := by
  unfold lc__law_names_1
  refine lc_map (item := fun (t : Nat) => P.int (t : Int)) (List.range 100) (by simp [rng_pos]) (by simp [chk]) (fun t ht => ?_) (by simp [restE, wipeE])
  rw [List.mem_range] at ht
  have hd := dg_len t
  have ha : addP (.str (tx (l.take 9))) (.str (tx (dgs t))) = some (.val (.str (tx (l.take 9 ++ dgs t)))) := addTx (by
    have : (l.take 9).length ≤ 9 := List.length_take_le _ _
    omega)
  have hc : slTP (.str (tx l)) none (some 9) = some (.val (.str (tx (l.take 9)))) := cut9 h
  refine ⟨[s0, s1, s2, s3, .val (nP' l), s5, .val (.int t), .no], by simp [wipeE], ?_, by simp [chk], by simp [wipeE]⟩
  simp [hc, str_dgs t (by omega), ha, nP']
theorem free_ok (h : okN l) (hF : ∀ l ∈ F, okN l) : lc__law_names_2 [s0, s1, .own (.lst (F.map nP')), s3, s4, .own (.lst ((spare l).map nP')), s6, .no] = .ok (.own (.lst (((spare l).filter fun x => !decide (x ∈ F)).map nP'))) [s0, s1, .own (.lst (F.map nP')), s3, s4, .val (.lst ((spare l).map nP')), s6, .no] := by
  unfold lc__law_names_2 lcF
  have e : itF (takeF (varF 5)) [s0, s1, .own (.lst (F.map nP')), s3, s4, .own (.lst ((spare l).map nP')), s6, .no] = .ok ((spare l).map nP') [s0, s1, .own (.lst (F.map nP')), s3, s4, .val (.lst ((spare l).map nP')), s6, .no] := by simp
  simp only [e, e_bok]
  rw [if_pos (by simp [chk])]
  rw [lc_loop (b := fun x => !decide (x ∈ F)) (g := nP') (spare l) (fun x hx => ?_) []]
  · simp [restE, wipeE]
  · refine ⟨[s0, s1, .own (.lst (F.map nP')), s3, s4, .val (.lst ((spare l).map nP')), s6, .val (nP' x)], by simp [wipeE], ?_, fun _ => ?_, by simp [chk], by simp [wipeE]⟩
    · simp [inN true (okN_spare h hx) hF]
    · simp
end
end PV

set_option maxHeartbeats 2000000
namespace PV
open PySem L2
theorem storeB1 {π : En} {i : Nat} {o o0 : O} (h : π[i]? = some (.loan o0)) : storeA π [.bor i] [.loan o] = π.set i (.loan o) := by
  apply List.ext_getElem?
  intro j
  have hi := (List.getElem?_eq_some_iff.mp h).1
  rw [store_get]
  by_cases z : i = j
  · subst z
    rw [h, List.getElem?_set_self hi]
    show some (match (if i = i then some o else _) with | some o => (Sl.loan o0).put o | none => _) = _
    rw [if_pos rfl]; rfl
  · rw [List.getElem?_set_ne z]
    have : findL j [.bor i] [.loan o] = none := by
      show (if i = j then some o else _) = none
      rw [if_neg z]
      rfl
    rw [this]
    cases π[j]? <;> rfl
theorem callR_l1 {Fn : FN} {π : En} {i : Nat} {o : O} (h : π[i]? = some (.loan o)) : callR Fn [.bor i] π = toRs π [.bor i] (Fn [.loan o]) := by
  unfold callR
  have e : loads π [.bor i] = some [.loan o] := by simp [loads, loadR, h]
  rw [e]
  have e2 : ([Rs.bor i].filterMap borIx) = [i] := rfl
  simp only [e2, List.nodup_cons, List.not_mem_nil, not_false_eq_true, List.nodup_nil, and_self, if_true]
  rfl
section
variable {ns : List Int} {o : List P} {F : List (List Nat)} {s1 s3 s4 s5 : Sl} {m : Int}
noncomputable def nmBody : M Fl := (seqF (setF 4 (callF (F_law_name) (consF (varF 0) (nilF))))
  (seqF (setF 5 (binF addP (lstF (consF (valF (takeF (varF 4))) (nilF))) (lc__law_names_1)))
  (dropF (mutF appP 2 (consF (binF ixP (lc__law_names_2) (cF (.int 0))) (nilF))))))
theorem nm_step (h : Row ns o) (hF : (∀ l ∈ F, okN l) ∧ F.Nodup ∧ F.length < 50) (h4 : slLo s4 = false) (h5 : slLo s5 = false) :
    ∃ o' l l0, (Row ns o' ∧ okN l ∧ l ∉ F) ∧ nmBody [.loan (.lst o), s1, .own (.lst (F.map nP')), s3, s4, s5, .no, .no] = .ok .nx [.loan (.lst o'), s1, .own (.lst ((F ++ [l]).map nP')), s3, .val (nP' l0), .val (.lst ((spare l0).map nP')), .no, .no] := by
  obtain ⟨l0, o', hl0, ho, e⟩ := name_ok h
  obtain ⟨l, r, hr⟩ := spare_new (l := l0) (F := F) (by omega)
  have hm : l ∈ (spare l0).filter (fun x => !decide (x ∈ F)) := by rw [hr]; exact List.mem_cons_self
  rw [List.mem_filter] at hm
  refine ⟨o', l, l0, ⟨ho, okN_spare hl0 hm.1, by simpa using hm.2⟩, ?_⟩
  have e1 : callR F_law_name [.bor 0] [.loan (.lst o), s1, .own (.lst (F.map nP')), s3, s4, s5, .no, .no] = .ok (.val (nP' l0)) [.loan (.lst o'), s1, .own (.lst (F.map nP')), s3, s4, s5, .no, .no] := by
    rw [callR_l1 rfl, e, toRs_ok, storeB1 rfl]; rfl
  have e2 := sp_ok (s0 := .loan (.lst o')) (s1 := s1) (s2 := .own (.lst (F.map nP'))) (s3 := s3) (s5 := s5) hl0
  have e3 := free_ok (s0 := .loan (.lst o')) (s1 := s1) (s3 := s3) (s4 := .val (nP' l0)) (s6 := .no) hl0 hF.1
  rw [hr] at e3
  have hsp : (nP' l0 :: (List.range 100).map fun t => nP' (l0.take 9 ++ dgs t)) = (spare l0).map nP' := by
    unfold spare
    rw [List.map_cons, List.map_map]; rfl
  unfold nmBody
  have hlen : F.length ≤ 1000000 := by omega
  simp [e1, e2, h4, h5, hsp]
  simp [e3, ixL, appP, hlen]
theorem names_ok (h : Row ns o) (hm : 0 ≤ m ∧ m ≤ 40) : ∃ (L : List (List Nat)) (o' : List P), (L.length = m.toNat ∧ L.Nodup ∧ ∀ l ∈ L, okN l) ∧ Row ns o' ∧ F_law_names [.loan (.lst o), .val (.int m)] = .ok (.own (.lst (L.map nP'))) [.loan (.lst o'), .val (.int m)] := by
  obtain ⟨π', k1, k2⟩ := loop_inv (t := nameT 3) (fb := nmBody) (fun (k : Nat) => P.int (k : Int))
    (fun d π => ∃ (L : List (List Nat)) (o' : List P) (t3 t4 t5 : Sl), (L.length = d.length ∧ L.Nodup ∧ ∀ l ∈ L, okN l) ∧ Row ns o' ∧ (slLo t3 = false ∧ slLo t4 = false ∧ slLo t5 = false) ∧ π = [.loan (.lst o'), .val (.int m), .own (.lst (L.map nP')), t3, t4, t5, .no, .no])
    (List.range m.toNat) (fun d a r π hd ⟨L, o', t3, t4, t5, hL, ho, hs, e⟩ => by
      subst e
      have hlen : d.length < m.toNat := by
        have := congrArg List.length hd
        simp at this
        omega
      obtain ⟨o2, l, l0, ⟨h1, h2, h3⟩, e2⟩ := nm_step (F := L) (s1 := .val (.int m)) (s3 := .val (.int (a : Int))) (s4 := t4) (s5 := t5) ho ⟨hL.2.2, hL.2.1, by omega⟩ hs.2.1 hs.2.2
      refine ⟨_, _, by simp [hs], e2, L ++ [l], o2, _, _, _, ⟨by simp [hL.1], ?_, ?_⟩, h1, ⟨rfl, rfl, rfl⟩, rfl⟩
      · rw [List.nodup_append]
        refine ⟨hL.2.1, by simp, ?_⟩
        intro x hx y hy
        rw [List.mem_singleton] at hy; subst hy
        exact fun q => h3 (q ▸ hx)
      · intro x hx
        rw [List.mem_append, List.mem_singleton] at hx
        rcases hx with hx | rfl
        · exact hL.2.2 x hx
        · exact h2)
    [.loan (.lst o), .val (.int m), .own (.lst []), .no, .no, .no, .no, .no] ⟨[], o, _, _, _, ⟨rfl, by simp, by simp⟩, h, ⟨rfl, rfl, rfl⟩, rfl⟩
  obtain ⟨L, o', t3, t4, t5, hL, ho, hs, rfl⟩ := k2
  refine ⟨L, o', ⟨by rw [hL.1]; simp, hL.2⟩, ho, ?_⟩
  have hz : -8000000 ≤ m ∧ m ≤ 8000000 := by omega
  unfold nmBody at k1
  unfold F_law_names B_law_names fr__law_names_1
  simp [e_for, hz, rng_pos, k1]
end
end PV

set_option maxHeartbeats 2000000
namespace PV
open PySem L2
@[simp] theorem e_itT {fp : M P} {π : En} : itTF fp π = (fp π).bind itTR := rfl
theorem isname_ok {l : List Nat} (h : okN l) : Fis_name [.val (nP' l)] = .ok (.val (.bl true)) [.val (nP' l)] := by
  obtain ⟨h1, h2, ⟨a, t, ht, ha⟩, h4⟩ := h
  have hl : lc_is_name_1 [.val (nP' l), .no] = .ok (.own (.lst (l.map fun n => P.bl (decide (n ∈ AL ∨ n ∈ FG))))) [.val (nP' l), .no] := by
    unfold lc_is_name_1
    rw [cLet, cFig]
    refine lc_map (item := fun n => P.str (tx [n])) l (by simp [nP', itTx (show l.length ≤ 1000000 by omega)]) (by simp [chk]) (fun n hn => ?_) (by simp [restE, wipeE])
    refine ⟨[.val (nP' l), .val (.str (tx [n]))], by simp [wipeE], ?_, by simp [chk], by simp [wipeE]⟩
    by_cases q : n ∈ AL
    · simp [inTx, q]
    · simp [inTx, q]
  have hlen : lenP [nP' l] = some (.val (.int l.length)) := lenTx (by omega)
  have hix : ixP (nP' l) (.int 0) = some (.val (.str (tx [a]))) := by
    unfold nP'; rw [ixTx (by omega), ht, at0]; rfl
  have hin : inXP true (.str (tx [a])) (.str (tx AL)) = some (.val (.bl false)) := by rw [inTx]; simp [ha]
  have hall : (l.all fun n => decide (n ∈ AL ∨ n ∈ FG)) = true := by
    rw [List.all_eq_true]
    intro n hn
    exact decide_eq_true (h4 n hn)
  have i1 : isiP' [nP' l, .ty "str"] = some (.val (.bl true)) := rfl
  have c1 : (1 : Int) ≤ l.length := by omega
  have c2 : (l.length : Int) ≤ 12 := by omega
  unfold Fis_name Bis_name
  rw [cLet]
  simp [hl, hlen, hix, hin, i1, c1, c2, allP_m]
  exact h4
/-- a leg: its name, the least and the most out, the least and the most back -/
abbrev Lg := List Nat × Int × Int × Int × Int
def okL (x : Lg) : Prop := okN x.1 ∧ (1 ≤ x.2.1 ∧ x.2.1 ≤ x.2.2.1 ∧ x.2.2.1 ≤ 300) ∧ (1 ≤ x.2.2.2.1 ∧ x.2.2.2.1 ≤ x.2.2.2.2 ∧ x.2.2.2.2 ≤ 300)
def lgI (x : Lg) : List P := [nP' x.1, .int x.2.1, .int x.2.2.1, .int x.2.2.2.1, .int x.2.2.2.2]
def lgP (x : Lg) : P := .tup (lgI x)
theorem row_mix {s : Bool} {ps : List P} : Fis_row [.val (mixP s ps)] = .ok (.val (.bl true)) [.val (mixP s ps)] := by
  cases s
  · exact row_tup
  · exact row_lst
theorem ixm {s : Bool} {ps : List P} {i : Int} : ixP (mixP s ps) (.int i) = (atI ps i).map .val := by cases s <;> rfl
theorem lenm {s : Bool} {ps : List P} : lenP [mixP s ps] = some (.val (.int ps.length)) := by cases s <;> rfl
theorem leg_ok {s : Bool} {x : Lg} (h : okL x) : Fis_leg [.val (mixP s (lgI x))] = .ok (.val (.bl true)) [.val (mixP s (lgI x))] := by
  obtain ⟨h1, h2, h3⟩ := h
  unfold Fis_leg Bis_leg fr_is_leg_1 lgI
  have hn := isname_ok h1
  have r := row_mix (s := s) (ps := [nP' x.1, .int x.2.1, .int x.2.2.1, .int x.2.2.2.1, .int x.2.2.2.2])
  have c : (x.2.1 ≤ 300) ∧ (x.2.2.2.1 ≤ 300) := by omega
  generalize hz : mixP s [nP' x.1, .int x.2.1, .int x.2.2.1, .int x.2.2.2.1, .int x.2.2.2.2] = z at r ⊢
  have hlen : lenP [z] = some (.val (.int 5)) := by rw [← hz, lenm]; rfl
  have h0 : ixP z (.int 0) = some (.val (nP' x.1)) := by rw [← hz, ixm, at0]; rfl
  have h1' : ixP z (.int 1) = some (.val (.int x.2.1)) := by rw [← hz, ixm, at1]; rfl
  have h2' : ixP z (.int 2) = some (.val (.int x.2.2.1)) := by rw [← hz, ixm, at2]; rfl
  have h3' : ixP z (.int 3) = some (.val (.int x.2.2.2.1)) := by rw [← hz, ixm, at3]; rfl
  have h4' : ixP z (.int 4) = some (.val (.int x.2.2.2.2)) := by rw [← hz, ixm, at4]; rfl
  simp [r, hlen, h0, hn, e_for, loopF, h1', h2', h3', h4', number_int, h2, h3, c]
end PV

set_option maxHeartbeats 2000000
namespace PV
open PySem L2
theorem fz_lgI {x : Lg} : (lgI x).map fz = lgI x := by simp [lgI, nP']
theorem fz_lgP {x : Lg} : fz (lgP x) = lgP x := by unfold lgP; rw [fz_tup, fz_lgI]
def mixG (x : Bool × Lg) : P := mixP x.1 (lgI x.2)
theorem fz_mixG {x : Bool × Lg} : fz (mixG x) = lgP x.2 := by
  unfold mixG mixP lgP
  cases x.1
  · simp only [Bool.false_eq_true, if_false]; rw [fz_tup, fz_lgI]
  · simp only [if_true]; rw [fz_lst, fz_lgI]
theorem dep_mixG {x : Bool × Lg} {m : Nat} (h : okL x.2) : dep (m + 1) (mixG x) = true := by
  unfold mixG
  have := strOk_N h.1
  cases x.1 <;> cases m <;> simp [mixP, dep, lgI, nP', this]
theorem want_mix {l : List (Bool × Lg)} {b : Bool} (hd : ∀ x ∈ l, okL x.2) (hl : l.length ≤ 10) :
    Fwant_row [.val (mixP b (l.map mixG)), .val (.fn 0), .val (.int 10)] = .ok (.val (.tup ((l.map Prod.snd).map lgP))) [.val (mixP b (l.map mixG)), .val (.fn 0), .val (.int 10)] := by
  have := want_all (m := 10) (rows := l.map mixG) (rp := mixP b (l.map mixG)) (mixP_or b _) (fun p hp => by
    obtain ⟨x, h, rfl⟩ := List.mem_map.mp hp
    exact leg_ok (hd x h)) (by
    have : (l.map mixG).length ≤ 100000 := by simp; omega
    have h2 : ∀ p ∈ l.map mixG, dep 3 p = true := fun p hp => by
      obtain ⟨x, h, rfl⟩ := List.mem_map.mp hp
      exact dep_mixG (hd x h)
    cases b <;> simp only [mixP, dep, if_true, Bool.false_eq_true, if_false, Bool.and_eq_true, decide_eq_true_eq, List.all_eq_true] <;> exact ⟨this, h2⟩) (by rw [List.length_map]; omega)
  rw [this, List.map_map, List.map_map]
  have : (fun x => fz (mixG x)) = fun x => lgP x.2 := funext fun x => fz_mixG
  simp only [Function.comp_def, this]
theorem mixG_lgP (ds : List Lg) : (ds.map fun d => (false, d)).map mixG = ds.map lgP := by rw [List.map_map]; rfl
theorem snd_ff (ds : List Lg) : (ds.map fun d => ((false, d) : Bool × Lg)).map Prod.snd = ds := by rw [List.map_map]; exact List.map_id _
theorem want_any {ds : List Lg} (b : Bool) (hd : ∀ d ∈ ds, okL d) (hl : ds.length ≤ 10) : Fwant_row [.val (mixP b (ds.map lgP)), .val (.fn 0), .val (.int 10)] = .ok (.val (.tup (ds.map lgP))) [.val (mixP b (ds.map lgP)), .val (.fn 0), .val (.int 10)] := by
  have := want_mix (l := ds.map fun d => (false, d)) (b := b) (fun x hx => by
    obtain ⟨d, h, rfl⟩ := List.mem_map.mp hx
    exact hd d h) (by rw [List.length_map]; exact hl)
  rw [mixG_lgP, snd_ff] at this
  exact this
/-! the walk made -/
def wk (b d : Int) (ls : List Lg) : P := .obj 6 [.int b, .int d, .tup (ls.map lgP)]
theorem nm_map (ls : List Lg) : (ls.map lgP).map (fun p => match ixP p (.int 0) with | some (.val q) => q | _ => .non) = ls.map fun x => nP' x.1 := by
  rw [List.map_map]
  refine List.map_congr_left fun x _ => ?_
  simp only [Function.comp_apply, lgP, lgI, ixT, at0]
  rfl
section
variable {ls : List Lg} {b d : Int} {s1 s2 s3 s4 s5 s6 : Sl}
theorem init_lc {q : Sl} : lc_Walk_init_1 [.loan (.obj 6 [.int b, .int d, .tup (ls.map lgP)]), s1, s2, s3, s4, s5, s6, .no] = .ok (.own (.lst (ls.map fun x => nP' x.1))) [.loan (.obj 6 [.int b, .int d, .tup (ls.map lgP)]), s1, s2, s3, s4, s5, s6, .no] := by
  unfold lc_Walk_init_1
  refine lc_map (item := lgP) ls (by simp) (by simp [chk]) (fun x hx => ?_) (by simp [restE, wipeE])
  refine ⟨[.loan (.obj 6 [.int b, .int d, .tup (ls.map lgP)]), s1, s2, s3, s4, s5, s6, .val (lgP x)], by simp [wipeE], ?_, by simp [chk], by simp [wipeE]⟩
  simp [lgP, lgI, ixT]
end
end PV

set_option maxHeartbeats 2000000
namespace PV
open PySem L2
section
variable {ls : List Lg} {N : List (List Nat)} {b d : Int} {s0 s1 s2 s3 s4 s5 s6 : Sl}
theorem take_N {k : Nat} : cutP (N.map nP') none (some (k : Int)) = (N.take k).map nP' := by
  rw [cut_to (by omega), Int.toNat_natCast, List.map_take]
theorem not_before {k : Nat} {n : List Nat} (hN : N.Nodup) (h : N[k]? = some n) : n ∉ N.take k := by
  intro hm
  obtain ⟨j, hj, e⟩ := List.mem_iff_getElem.mp hm
  rw [List.length_take] at hj
  rw [List.getElem_take] at e
  obtain ⟨hk, e2⟩ := List.getElem?_eq_some_iff.mp h
  have hne : N[j]'(by omega) ≠ N[k] := (List.pairwise_iff_getElem.mp (List.nodup_iff_pairwise_ne.mp hN)) j k (by omega) hk (by omega)
  exact hne (e.trans e2.symm)
theorem init_loop (hN : N.Nodup) (hk : ∀ n ∈ N, okN n) : ∃ t5 t6, fr_Walk_init_1 [s0, s1, s2, s3, .own (.lst (N.map nP')), .no, .no, .no] = .ok .nx [s0, s1, s2, s3, .val (.lst (N.map nP')), t5, t6, .no] := by
  obtain ⟨π', k1, k2⟩ := loop_inv (t := tupT (consT (nameT 5) (consT (nameT 6) (nilT)))) (fb := ifF (tstF (binF (inXP false) (varF 6) (slF (varF 4) (noP) (inP (varF 5))))) (raiseF 5 1 (consF (valF (takeF (varF 6))) (nilF))) (skipF)) (fun x : P × Nat => P.tup [.int (x.2 : Nat), x.1])
    (fun e π => ∃ t5 t6, (slLo t5 = false ∧ slLo t6 = false) ∧ π = [s0, s1, s2, s3, .val (.lst (N.map nP')), t5, t6, .no])
    ((N.map nP').zipIdx 0) (fun e a r π hd ⟨t5, t6, hs, hπ⟩ => by
      subst hπ
      have ha : ((N.map nP').zipIdx 0)[e.length]? = some a := by rw [hd]; simp
      rw [List.getElem?_zipIdx] at ha
      cases hn : N[e.length]? with
      | none => rw [List.getElem?_map, hn] at ha; simp at ha
      | some n =>
        rw [List.getElem?_map, hn] at ha
        simp at ha
        subst ha
        have hm : n ∈ N := List.mem_of_getElem? hn
        have hi := inN (l := n) (F := N.take e.length) false (hk n hm) (fun l hl => hk l (List.mem_of_mem_take hl))
        simp only [Bool.false_eq_true, if_false, decide_eq_false (not_before hN hn), List.map_take] at hi
        refine ⟨[s0, s1, s2, s3, .val (.lst (N.map nP')), .val (.int (e.length : Nat)), .val (nP' n), .no], [s0, s1, s2, s3, .val (.lst (N.map nP')), .val (.int (e.length : Nat)), .val (nP' n), .no], by simp [hs], ?_, _, _, ⟨rfl, rfl⟩, rfl⟩
        simp [take_N, hi])
    [s0, s1, s2, s3, .val (.lst (N.map nP')), .no, .no, .no] ⟨.no, .no, ⟨rfl, rfl⟩, rfl⟩
  obtain ⟨t5, t6, hs, rfl⟩ := k2
  refine ⟨t5, t6, ?_⟩
  unfold fr_Walk_init_1
  simp [e_for, enumP_map, k1]
theorem init_ok {rp : P} {as : List Sl} (hw : Fwant_row [.val rp, .val (.fn 0), .val (.int 10)] = .ok (.val (.tup (ls.map lgP))) as) (hd : ∀ x ∈ ls, okL x) (hn : (ls.map Prod.fst).Nodup) (h1 : 0 ≤ b ∧ b ≤ 1440) (h2 : b ≤ d ∧ d ≤ 1440) :
    FWalk_init [.loan (.obj 6 []), .val (.int b), .val (.int d), .val rp] = .ok (.val .non) [.loan (.obj 6 [.int b, .int d, .tup (ls.map lgP)]), .val (.int b), .val (.int d), .val rp] := by
  obtain ⟨t5, t6, e⟩ := init_loop (N := ls.map Prod.fst) (s0 := .loan (.obj 6 [.int b, .int d, .tup (ls.map lgP)])) (s1 := .val (.int b)) (s2 := .val (.int d)) (s3 := .val rp) hn (fun n hm => by
    obtain ⟨x, hx, rfl⟩ := List.mem_map.mp hm
    exact (hd x hx).1)
  have e2 := init_lc (ls := ls) (b := b) (d := d) (s1 := .val (.int b)) (s2 := .val (.int d)) (s3 := .val rp) (s4 := .no) (s5 := .no) (s6 := .no) (q := .no)
  have e3 : (ls.map fun x => nP' x.1) = (ls.map Prod.fst).map nP' := by rw [List.map_map]; rfl
  rw [e3] at e2
  unfold FWalk_init BWalk_init
  simp only [List.map_map] at e e2
  simp [want_int, h1, h2, hw, e2, e]
end
end PV

set_option maxHeartbeats 2000000
namespace PV
open PySem L2
/-- legs that a walk may have -/
structure OkW (b d : Int) (ls : List Lg) : Prop where
  le : ls.length ≤ 10
  ok : ∀ x ∈ ls, okL x
  nd : (ls.map Prod.fst).Nodup
  b0 : 0 ≤ b ∧ b ≤ 1440
  d0 : b ≤ d ∧ d ≤ 1440
section
variable {ls ms : List Lg} {b d b2 d2 : Int} {π : En}
theorem mk_mix {l : List (Bool × Lg)} {s : Bool} (h : OkW b d (l.map Prod.snd)) : mkR 6 FWalk_init [.val (.int b), .val (.int d), .val (mixP s (l.map mixG))] π = .ok (.own (.obj 6 [.int b, .int d, .tup ((l.map Prod.snd).map lgP)])) π := by
  have := init_ok (b := b) (d := d) (want_mix (l := l) (b := s) (fun x hx => h.ok x.2 (List.mem_map_of_mem hx)) (by have := h.le; simpa using this)) h.ok h.nd h.b0 h.d0
  simp [this]
theorem mk_any (s : Bool) (h : OkW b d ls) : mkR 6 FWalk_init [.val (.int b), .val (.int d), .val (mixP s (ls.map lgP))] π = .ok (.own (.obj 6 [.int b, .int d, .tup (ls.map lgP)])) π := by
  have := init_ok (b := b) (d := d) (want_any s h.ok h.le) h.ok h.nd h.b0 h.d0
  simp [this]
theorem mk_tupW (h : OkW b d ls) : mkR 6 FWalk_init [.val (.int b), .val (.int d), .val (.tup (ls.map lgP))] π = .ok (.own (.obj 6 [.int b, .int d, .tup (ls.map lgP)])) π := mk_any false h
theorem mk_lstW (h : OkW b d ls) : mkR 6 FWalk_init [.val (.int b), .val (.int d), .val (.lst (ls.map lgP))] π = .ok (.own (.obj 6 [.int b, .int d, .tup (ls.map lgP)])) π := mk_any true h
/-! == -/
theorem eqv_lgP (x y : Lg) : eqv (lgP x) (lgP y) = decide (x = y) := by
  obtain ⟨x1, x2, x3, x4, x5⟩ := x
  obtain ⟨y1, y2, y3, y4, y5⟩ := y
  simp [lgP, lgI, eqv_N]
theorem dat_lgP {n : Nat} {x : Lg} (h : okL x) : dat (n + 1) (lgP x) = true := by
  have := dat_N (n := n) h.1
  show (lgI x).all (dat n) = true
  simp [lgI, this]
theorem dat_ls {m : Nat} (h : ∀ x ∈ ls, okL x) : (ls.map lgP).all (dat (m + 1)) = true := by
  rw [List.all_eq_true]
  intro p hp
  obtain ⟨x, hx, rfl⟩ := List.mem_map.mp hp
  exact dat_lgP (h x hx)
theorem eq_ok (h1 : ∀ x ∈ ls, okL x) (h2 : ∀ x ∈ ms, okL x) : FWalk_eq [.val (wk b d ls), .val (wk b2 d2 ms)] = .ok (.val (.bl (decide (b = b2 ∧ d = d2 ∧ ls = ms)))) [.val (wk b d ls), .val (wk b2 d2 ms)] := by
  have e1 := eqP_d (p := .tup [.int b, .int d, .tup (ls.map lgP)]) (q := .tup [.int b2, .int d2, .tup (ms.map lgP)]) (by
    have := dat_ls h1 (m := 57)
    simp only [dat60t, List.all_cons, dat_int, dat59t, List.all_nil, Bool.and_true, Bool.true_and, this]) (by
    have := dat_ls h2 (m := 57)
    simp only [dat60t, List.all_cons, dat_int, dat59t, List.all_nil, Bool.and_true, Bool.true_and, this])
  rw [eqv_tup] at e1
  have hi : isiCP 6 [wk b2 d2 ms, .cls 6] = some (.val (.bl true)) := rfl
  unfold FWalk_eq BWalk_eq
  simp only [wk] at hi ⊢
  simp [hi, e1, eqvs_map eqv_lgP]
theorem eq_tup {ps : List P} : FWalk_eq [.val (wk b d ls), .val (.tup ps)] = .ok (.val (.bl false)) [.val (wk b d ls), .val (.tup ps)] := by
  have hi : isiCP 6 [.tup ps, .cls 6] = some (.val (.bl false)) := rfl
  unfold FWalk_eq BWalk_eq
  simp [hi]
/-! where a name stands -/
theorem fld_l : fldP lay_k15 6 "legs" (wk b d ls) = some (.val (.tup (ls.map lgP))) := rfl
theorem place_lc {s1 s2 : Sl} : lc_Walk_place_1 [.val (wk b d ls), s1, s2, .no] = .ok (.own (.lst ((ls.map Prod.fst).map nP'))) [.val (wk b d ls), s1, s2, .no] := by
  unfold lc_Walk_place_1
  rw [List.map_map]
  refine lc_map (item := lgP) ls (by simp [fld_l]) (by simp [chk]) (fun x hx => ?_) (by simp [restE, wipeE])
  refine ⟨[.val (wk b d ls), s1, s2, .val (lgP x)], by simp [wipeE], ?_, by simp [chk], by simp [wipeE]⟩
  simp [lgP, lgI, ixT]
theorem find_N {N : List (List Nat)} {n : List Nat} : (N.map nP').findIdx? (fun z => eqv z (nP' n)) = N.findIdx? fun m => decide (m = n) := by
  rw [List.findIdx?_map]
  congr 1
  funext m
  simp only [Function.comp_apply, eqv_N]
/-- the place of a name -/
def pl (ls : List Lg) (n : List Nat) : Option Nat := (ls.map Prod.fst).findIdx? fun m => decide (m = n)
theorem place_ok {n : List Nat} {k : Nat} (h : ∀ x ∈ ls, okL x) (hn : okN n) (hk : pl ls n = some k) : FWalk_place [.val (wk b d ls), .val (nP' n)] = .ok (.val (.int k)) [.val (wk b d ls), .val (nP' n)] := by
  have hN : ∀ l ∈ ls.map Prod.fst, okN l := fun l hl => by
    obtain ⟨x, hx, rfl⟩ := List.mem_map.mp hl
    exact (h x hx).1
  have hm : n ∈ ls.map Prod.fst := by
    obtain ⟨hlt, h2, _⟩ := List.findIdx?_eq_some_iff_getElem.mp hk
    have := of_decide_eq_true h2
    rw [← this]
    exact List.getElem_mem _
  have e1 := place_lc (b := b) (d := d) (ls := ls) (s1 := .val (nP' n)) (s2 := .no)
  have e2 := inN true hn hN
  simp only [if_true, decide_eq_true hm, Bool.not_true] at e2
  have e3 : indexP [.lst ((ls.map Prod.fst).map nP'), nP' n] = some (.val (.int k)) := by
    show (if dat 60 (.lst ((ls.map Prod.fst).map nP')) = true ∧ dat 60 (nP' n) = true then _ else _) = _
    rw [if_pos ⟨by rw [dat60l]; exact dat_Ns hN, dat_N hn⟩, find_N]
    unfold pl at hk
    rw [hk]; rfl
  unfold FWalk_place BWalk_place
  rw [List.map_map] at e1 e2 e3
  simp [e1, e2, e3, pmF]
theorem place_x {n : List Nat} (h : ∀ x ∈ ls, okL x) (hn : okN n) (hk : n ∉ ls.map Prod.fst) : ∃ as, FWalk_place [.val (wk b d ls), .val (nP' n)] = .exc 4 [nP' n] as := by
  have hN : ∀ l ∈ ls.map Prod.fst, okN l := fun l hl => by
    obtain ⟨x, hx, rfl⟩ := List.mem_map.mp hl
    exact (h x hx).1
  have e1 := place_lc (b := b) (d := d) (ls := ls) (s1 := .val (nP' n)) (s2 := .no)
  have e2 := inN true hn hN
  simp only [if_true, decide_eq_false hk, Bool.not_false] at e2
  unfold FWalk_place BWalk_place
  rw [List.map_map] at e1 e2
  simp [e1, e2]
end
end PV

set_option maxHeartbeats 2000000
namespace PV
open PySem L2
theorem sumP_m {α : Type} {g : α → Int} {l : List α} : sumP [.lst (l.map fun a => P.int (g a))] = some (.val (.int (l.map g).sum)) := by
  show ((intsOf (l.map fun a => P.int (g a))).bind fun ns => ii ns.sum) = _
  rw [intsOf_m]; rfl
def col1 (x : Lg) : Int := x.2.1
def col2 (x : Lg) : Int := x.2.2.1
def col3 (x : Lg) : Int := x.2.2.2.1
def col4 (x : Lg) : Int := x.2.2.2.2
theorem ix_1 {x : Lg} : ixP (lgP x) (.int 1) = some (.val (.int (col1 x))) := by simp [lgP, lgI, ixT, col1]
theorem ix_2 {x : Lg} : ixP (lgP x) (.int 2) = some (.val (.int (col2 x))) := by simp [lgP, lgI, ixT, col2]
theorem ix_3 {x : Lg} : ixP (lgP x) (.int 3) = some (.val (.int (col3 x))) := by simp [lgP, lgI, ixT, col3]
theorem ix_4 {x : Lg} : ixP (lgP x) (.int 4) = some (.val (.int (col4 x))) := by simp [lgP, lgI, ixT, col4]
theorem ix_0 {x : Lg} : ixP (lgP x) (.int 0) = some (.val (nP' x.1)) := by simp [lgP, lgI, ixT]
section
variable {ls ms : List Lg} {b d : Int} {s0 s1 : Sl}
theorem colc {i : Int} {g : Lg → Int} (h : ∀ x, ixP (lgP x) (.int i) = some (.val (.int (g x)))) : lcF (itF (takeF (varF 2))) (nameT 3) (yesF) (takeF (binF ixP (varF 3) (cF (.int i)))) [3] [s0, s1, .val (.tup (ms.map lgP)), .no] = .ok (.own (.lst (ms.map fun x => P.int (g x)))) [s0, s1, .val (.tup (ms.map lgP)), .no] := by
  refine lc_map (item := lgP) ms (by simp) (by simp [chk]) (fun x hx => ?_) (by simp [restE, wipeE])
  refine ⟨[s0, s1, .val (.tup (ms.map lgP)), .val (lgP x)], by simp [wipeE], ?_, by simp [chk], by simp [wipeE]⟩
  simp [h]
/-- sums over the first legs -/
def sm (g : Lg → Int) (ls : List Lg) (k : Nat) : Int := ((ls.take (k + 1)).map g).sum
theorem fld_b : fldP lay_k15 6 "begin" (wk b d ls) = some (.val (.int b)) := rfl
theorem fld_d : fldP lay_k15 6 "dark" (wk b d ls) = some (.val (.int d)) := rfl
variable {n : List Nat} {k : Nat}
theorem cut_k : cutP (ls.map lgP) none (some ((k : Int) + 1)) = (ls.take (k + 1)).map lgP := by
  rw [cut_to (by omega), show ((k : Int) + 1).toNat = k + 1 by omega, List.map_take]
theorem backW_ok (h : ∀ x ∈ ls, okL x) (hn : okN n) (hk : pl ls n = some k) : FWalk_back [.val (wk b d ls), .val (nP' n)] = .ok (.val (.tup [.int (sm col3 ls k), .int (sm col4 ls k)])) [.val (wk b d ls), .val (nP' n)] := by
  have e1 := place_ok (b := b) (d := d) h hn hk
  have c3 := colc (ms := ls.take (k + 1)) (s0 := .val (wk b d ls)) (s1 := .val (nP' n)) (fun x => ix_3 (x := x))
  have c4 := colc (ms := ls.take (k + 1)) (s0 := .val (wk b d ls)) (s1 := .val (nP' n)) (fun x => ix_4 (x := x))
  have hc := cut_k (ls := ls) (k := k)
  unfold FWalk_back BWalk_back lc_Walk_back_1 lc_Walk_back_2
  simp only [wk, sm] at e1 c3 c4 ⊢
  generalize ls.take (k + 1) = ms at c3 c4 hc ⊢
  simp [e1, hc, c3, c4, sumP_m]
theorem arrivesW_ok (h : ∀ x ∈ ls, okL x) (hn : okN n) (hk : pl ls n = some k) : FWalk_arrives [.val (wk b d ls), .val (nP' n)] = .ok (.val (.tup [.int (b + sm col1 ls k), .int (b + sm col2 ls k)])) [.val (wk b d ls), .val (nP' n)] := by
  have e1 := place_ok (b := b) (d := d) h hn hk
  have c3 := colc (ms := ls.take (k + 1)) (s0 := .val (wk b d ls)) (s1 := .val (nP' n)) (fun x => ix_1 (x := x))
  have c4 := colc (ms := ls.take (k + 1)) (s0 := .val (wk b d ls)) (s1 := .val (nP' n)) (fun x => ix_2 (x := x))
  have hc := cut_k (ls := ls) (k := k)
  unfold FWalk_arrives BWalk_arrives lc_Walk_arrives_1 lc_Walk_arrives_2
  simp only [wk, sm] at e1 c3 c4 ⊢
  generalize ls.take (k + 1) = ms at c3 c4 hc ⊢
  simp [e1, hc, c3, c4, sumP_m]
theorem turn_ok (h : ∀ x ∈ ls, okL x) (hn : okN n) (hk : pl ls n = some k) : FWalk_turn_at [.val (wk b d ls), .val (nP' n)] = .ok (.val (.int (d - sm col4 ls k))) [.val (wk b d ls), .val (nP' n)] := by
  have e1 := backW_ok (b := b) (d := d) h hn hk
  unfold FWalk_turn_at BWalk_turn_at
  simp only [wk] at e1 ⊢
  simp [e1, ixT]
theorem sure_ok (h : ∀ x ∈ ls, okL x) (hn : okN n) (hk : pl ls n = some k) : FWalk_surely_back [.val (wk b d ls), .val (nP' n)] = .ok (.val (.bl (decide (b + sm col2 ls k ≤ d - sm col4 ls k)))) [.val (wk b d ls), .val (nP' n)] := by
  have e1 := arrivesW_ok (b := b) (d := d) h hn hk
  have e2 := turn_ok (b := b) (d := d) h hn hk
  unfold FWalk_surely_back BWalk_surely_back
  simp only [wk] at e1 e2 ⊢
  simp [e1, e2, ixT]
theorem may_ok (h : ∀ x ∈ ls, okL x) (hn : okN n) (hk : pl ls n = some k) : FWalk_may_be_back [.val (wk b d ls), .val (nP' n)] = .ok (.val (.bl (decide (b + sm col1 ls k + sm col3 ls k ≤ d)))) [.val (wk b d ls), .val (nP' n)] := by
  have e1 := arrivesW_ok (b := b) (d := d) h hn hk
  have e2 := backW_ok (b := b) (d := d) h hn hk
  unfold FWalk_may_be_back BWalk_may_be_back
  simp only [wk] at e1 e2 ⊢
  simp [e1, e2, ixT]
theorem restW_ok (h : ∀ x ∈ ls, okL x) (hn : okN n) (hk : pl ls n = some k) : FWalk_rest_at [.val (wk b d ls), .val (nP' n)] = .ok (.val (.int (d - sm col4 ls k - (b + sm col2 ls k)))) [.val (wk b d ls), .val (nP' n)] := by
  have e1 := arrivesW_ok (b := b) (d := d) h hn hk
  have e2 := turn_ok (b := b) (d := d) h hn hk
  unfold FWalk_rest_at BWalk_rest_at
  simp only [wk] at e1 e2 ⊢
  simp [e1, e2, ixT]
theorem latest_ok (h : ∀ x ∈ ls, okL x) (hn : okN n) (hk : pl ls n = some k) : FWalk_latest_begin [.val (wk b d ls), .val (nP' n)] = .ok (.val (.int (b + (d - sm col4 ls k - (b + sm col2 ls k))))) [.val (wk b d ls), .val (nP' n)] := by
  have e1 := restW_ok (b := b) (d := d) h hn hk
  unfold FWalk_latest_begin BWalk_latest_begin
  simp only [wk] at e1 ⊢
  simp [e1]
end
end PV

set_option maxHeartbeats 2000000
namespace PV
open PySem L2
section
variable {ls : List Lg} {b d m : Int} {n : List Nat} {k : Nat} {x : Lg}
theorem pl_at (hn : (ls.map Prod.fst).Nodup) (h : ls[k]? = some x) : pl ls x.1 = some k := by
  unfold pl
  obtain ⟨hk, e⟩ := List.getElem?_eq_some_iff.mp h
  rw [List.findIdx?_eq_some_iff_getElem]
  refine ⟨by simpa using hk, by simp [e], fun j hj => ?_⟩
  have := (List.pairwise_iff_getElem.mp (List.nodup_iff_pairwise_ne.mp hn)) j k (by simp; omega) (by simpa using hk) hj
  simp only [List.getElem_map, e] at this ⊢
  simpa using this
/-- whether a leg's end is surely a place to come back from -/
def sureB (ls : List Lg) (b d : Int) (k : Nat) : Bool := decide (b + sm col2 ls k ≤ d - sm col4 ls k)
def sureX (ls : List Lg) (b d : Int) (x : Lg) : Bool := match pl ls x.1 with
  | some k => sureB ls b d k
  | none => false
theorem farthest_ok (h : ∀ x ∈ ls, okL x) (hn : (ls.map Prod.fst).Nodup) : FWalk_farthest_sure [.val (wk b d ls)] = .ok (.val (match (ls.filter (sureX ls b d)).getLast? with
    | some x => nP' x.1
    | none => .non)) [.val (wk b d ls)] := by
  have hl : lc_Walk_farthest_sure_1 [.val (wk b d ls), .no, .no] = .ok (.own (.lst ((ls.filter (sureX ls b d)).map fun x => nP' x.1))) [.val (wk b d ls), .no, .no] := by
    unfold lc_Walk_farthest_sure_1
    refine lc_pure (item := lgP) ls (by simp [fld_l]) (by simp [chk]) (fun x hx => ?_) (by simp [restE, wipeE])
    obtain ⟨k, hk, e⟩ := List.mem_iff_getElem.mp hx
    have hp := pl_at hn (k := k) (x := x) (by rw [List.getElem?_eq_getElem hk, e])
    have hs := sure_ok (b := b) (d := d) h (h x hx).1 hp
    have hX : sureX ls b d x = decide (b + sm col2 ls k ≤ d - sm col4 ls k) := by unfold sureX; rw [hp]; rfl
    refine ⟨[.val (wk b d ls), .no, .val (lgP x)], by simp [wipeE], ?_, fun _ => ?_, by simp [chk], by simp [wipeE]⟩
    · rw [hX]
      simp only [wk] at hs ⊢
      simp [ix_0, hs]
    · simp [ix_0]
  unfold FWalk_farthest_sure BWalk_farthest_sure
  generalize ls.filter (sureX ls b d) = g at hl ⊢
  cases e : g.getLast? with
  | none =>
    have : g = [] := by simpa using e
    subst this
    simp [hl]
  | some y =>
    have h0 : 0 < g.length := by cases g with
      | nil => simp at e
      | cons a t => simp
    have hlast : atI (g.map fun x => nP' x.1) (-1) = some (nP' y.1) := by rw [atI_m1, List.getLast?_map, e]; rfl
    have h1 : (0 : Int) < g.length := by omega
    simp [hl, h0, h1, ixL, hlast]
theorem next_ok (h : ∀ x ∈ ls, okL x) (hn : okN n) (hk : pl ls n = some k) : FWalk_next_bounds [.val (wk b d ls), .val (nP' n), .val (.int m)] = .ok (.val (match ls[k + 1]? with
    | some y => .tup [.int (m + col1 y), .int (m + col2 y)]
    | none => .non)) [.val (wk b d ls), .val (nP' n), .val (.int m)] := by
  have e1 := place_ok (b := b) (d := d) h hn hk
  unfold FWalk_next_bounds BWalk_next_bounds
  simp only [wk] at e1 ⊢
  cases e : ls[k + 1]? with
  | none =>
    have hl : ¬ (k : Int) + 1 < ls.length := by
      have := List.getElem?_eq_none_iff.mp e
      omega
    simp [e1, hl]
  | some y =>
    obtain ⟨hk1, _⟩ := List.getElem?_eq_some_iff.mp e
    have hl : (k : Int) + 1 < ls.length := by omega
    have hi : ixP (.tup (ls.map lgP)) (.int ((k : Int) + 1)) = some (.val (lgP y)) := by
      rw [ixT, show (k : Int) + 1 = ((k + 1 : Nat) : Int) by omega, atI_nat, List.getElem?_map, e]; rfl
    simp [e1, hl, hi, ix_1, ix_2]
theorem go_ok (h : ∀ x ∈ ls, okL x) (hnd : (ls.map Prod.fst).Nodup) (hn : okN n) (hk : pl ls n = some k) : FWalk_go_on [.val (wk b d ls), .val (nP' n), .val (.int m)] = .ok (.val (.bl (match ls[k + 1]? with
    | some y => decide (m + col2 y ≤ d - sm col4 ls (k + 1))
    | none => false))) [.val (wk b d ls), .val (nP' n), .val (.int m)] := by
  have e1 := place_ok (b := b) (d := d) h hn hk
  unfold FWalk_go_on BWalk_go_on
  cases e : ls[k + 1]? with
  | none =>
    have hl : (ls.length : Int) ≤ (k : Int) + 1 := by
      have := List.getElem?_eq_none_iff.mp e
      omega
    simp only [wk] at e1 ⊢
    simp [e1, hl]
  | some y =>
    obtain ⟨hk1, _⟩ := List.getElem?_eq_some_iff.mp e
    have hl : ¬ (ls.length : Int) ≤ (k : Int) + 1 := by omega
    have hi : ixP (.tup (ls.map lgP)) (.int ((k : Int) + 1)) = some (.val (lgP y)) := by
      rw [ixT, show (k : Int) + 1 = ((k + 1 : Nat) : Int) by omega, atI_nat, List.getElem?_map, e]; rfl
    have ht := turn_ok (b := b) (d := d) h (h y (List.mem_of_getElem? e)).1 (pl_at hnd e)
    simp only [wk] at e1 ht ⊢
    simp [e1, hl, hi, ix_2, ix_0, ht]
end
end PV

set_option maxHeartbeats 2000000
namespace PV
open PySem L2
section
variable {ls : List Lg} {b d m : Int} {n : List Nat} {k : Nat} {x : Lg}
theorem later_ok (h : OkW (b + m) d ls) : FWalk_later [.val (wk b d ls), .val (.int m)] = .ok (.own (.obj 6 [.int (b + m), .int d, .tup (ls.map lgP)])) [.val (wk b d ls), .val (.int m)] := by
  unfold FWalk_later BWalk_later
  have e := init_ok (b := b + m) (d := d) (want_any false h.ok h.le) h.ok h.nd h.b0 h.d0
  simp only [mixP, Bool.false_eq_true, if_false] at e
  simp only [wk]
  simp [e]
/-- what one has seen: a name and a minute -/
abbrev Sn := List Nat × Int
def snP (x : Sn) : P := .tup [nP' x.1, .int x.2]
def turnI (ls : List Lg) (d : Int) (n : List Nat) : Int := match pl ls n with
  | some k => d - sm col4 ls k
  | none => 0
theorem must_ok {S : List Sn} (h : ∀ x ∈ ls, okL x) (hS : ∀ s ∈ S, okN s.1 ∧ ∃ k, pl ls s.1 = some k) : FWalk_must_turn [.val (wk b d ls), .val (.lst (S.map snP))] = .ok (.val (match S.find? fun s => decide (turnI ls d s.1 ≤ s.2) with
    | some s => nP' s.1
    | none => .non)) [.val (wk b d ls), .val (.lst (S.map snP))] := by
  have hl : ∀ o : Option Sn, loopF (tupT (consT (nameT 2) (consT (nameT 3) (nilT)))) (ifF (tstF (binF geP (varF 3) (methF 6 FWalk_turn_at (varF 0) (consF (valF (takeF (varF 2))) (nilF))))) (retF (varF 2)) (skipF)) (S.map snP) [.val (wk b d ls), .val (.lst (S.map snP)), ops .no (fun s : Sn => nP' s.1) o, ops .no (fun s : Sn => P.int s.2) o] =
      fndR (fun s : Sn => .ok (.rt (.val (nP' s.1))) [.val (wk b d ls), .val (.lst (S.map snP)), .val (nP' s.1), .val (.int s.2)]) (.ok .nx [.val (wk b d ls), .val (.lst (S.map snP)), ops .no (fun s : Sn => nP' s.1) (lastO o S), ops .no (fun s : Sn => P.int s.2) (lastO o S)]) (S.find? fun s => decide (turnI ls d s.1 ≤ s.2)) := by
    refine loop_find (fun o => [.val (wk b d ls), .val (.lst (S.map snP)), ops .no (fun s : Sn => nP' s.1) o, ops .no (fun s : Sn => P.int s.2) o]) snP (fun s => decide (turnI ls d s.1 ≤ s.2)) _ S ?_ ?_
    · intro s hs q o
      obtain ⟨hn, k, hk⟩ := hS s hs
      have ht := turn_ok (b := b) (d := d) h hn hk
      have hi : turnI ls d s.1 = d - sm col4 ls k := by unfold turnI; rw [hk]
      rw [hi] at q
      have q' := of_decide_eq_false q
      refine ⟨[.val (wk b d ls), .val (.lst (S.map snP)), .val (nP' s.1), .val (.int s.2)], by simp [snP], ?_⟩
      simp only [wk] at ht ⊢
      simp [ht, q']
    · intro s hs q o
      obtain ⟨hn, k, hk⟩ := hS s hs
      have ht := turn_ok (b := b) (d := d) h hn hk
      have hi : turnI ls d s.1 = d - sm col4 ls k := by unfold turnI; rw [hk]
      rw [hi] at q
      have q' := of_decide_eq_true q
      refine ⟨[.val (wk b d ls), .val (.lst (S.map snP)), .val (nP' s.1), .val (.int s.2)], by simp [snP], ?_, .inl ⟨_, _, rfl⟩⟩
      simp only [wk] at ht ⊢
      simp [ht, q']
  have hl0 := hl none
  simp only [ops_n] at hl0
  unfold FWalk_must_turn BWalk_must_turn fr_Walk_must_turn_1
  cases e : S.find? fun s => decide (turnI ls d s.1 ≤ s.2) with
  | none =>
    rw [e, fndR_n] at hl0
    simp [e_for, hl0]
  | some s =>
    rw [e, fndR_s] at hl0
    simp [e_for, hl0]
end
end PV

set_option maxHeartbeats 2000000
namespace PV
open PySem L2
def sumG (g : Lg → Int) (l : List Lg) : Int := (l.map g).sum
def canF (ls : List Lg) : List Sn → Int → Int → Nat → Bool
  | [], _, _, _ => true
  | s :: S, lo, hi, a => match pl ls s.1 with
    | none => false
    | some p => if p < a then false else
      if lo + sumG col1 ((ls.take (p + 1)).drop a) ≤ s.2 ∧ s.2 ≤ hi + sumG col2 ((ls.take (p + 1)).drop a) then canF ls S s.2 s.2 (p + 1) else false
section
variable {ls ms : List Lg} {b d m : Int} {n : List Nat} {k : Nat} {s0 s1 s2 s3 s4 s5 s6 s7 : Sl}
theorem colc7 {i : Int} {g : Lg → Int} (h : ∀ x, ixP (lgP x) (.int i) = some (.val (.int (g x)))) : lcF (itF (takeF (varF 7))) (nameT 8) (yesF) (takeF (binF ixP (varF 8) (cF (.int i)))) [8] [s0, s1, s2, s3, s4, s5, s6, .val (.tup (ms.map lgP)), .no] = .ok (.own (.lst (ms.map fun x => P.int (g x)))) [s0, s1, s2, s3, s4, s5, s6, .val (.tup (ms.map lgP)), .no] := by
  refine lc_map (item := lgP) ms (by simp) (by simp [chk]) (fun x hx => ?_) (by simp [restE, wipeE])
  refine ⟨[s0, s1, s2, s3, s4, s5, s6, .val (.tup (ms.map lgP)), .val (lgP x)], by simp [wipeE], ?_, by simp [chk], by simp [wipeE]⟩
  simp [h]
noncomputable def canB : M Fl := (seqF (setF 6 (methF 6 FWalk_place (varF 0) (consF (valF (takeF (varF 4))) (nilF))))
  (seqF (ifF (tstF (binF ltP (varF 6) (varF 3))) (retF (cF (.bl false))) (skipF))
  (seqF (setF 7 (slF (unF (fldP lay_k15 6 "legs") (varF 0)) (inP (varF 3)) (inP (binF addP (varF 6) (cF (.int 1))))))
  (seqF (setF 2 (tupF (consF (valF (takeF (binF addP (binF ixP (varF 2) (cF (.int 0))) (calF sumP (consF (lc_Walk_can_be_1) (nilF)))))) (consF (valF (takeF (binF addP (binF ixP (varF 2) (cF (.int 1))) (calF sumP (consF (lc_Walk_can_be_2) (nilF)))))) (nilF)))))
  (seqF (ifF (notF (tstF (chF leP leP (binF ixP (varF 2) (cF (.int 0))) (varF 5) (binF ixP (varF 2) (cF (.int 1)))))) (retF (cF (.bl false))) (skipF))
  (parF 2 3 (tupF (consF (valF (takeF (varF 5))) (consF (valF (takeF (varF 5))) (nilF)))) (binF addP (varF 6) (cF (.int 1)))))))))
theorem can_loop (h : ∀ x ∈ ls, okL x) : ∀ (S : List Sn) (lo hi : Int) (a : Nat) (s4 s5 s6 s7 : Sl), (∀ s ∈ S, okN s.1 ∧ ∃ k, pl ls s.1 = some k) → (slLo s4 = false ∧ slLo s5 = false ∧ slLo s6 = false ∧ slLo s7 = false) →
    ∃ π', loopF (tupT (consT (nameT 4) (consT (nameT 5) (nilT)))) canB (S.map snP) [.val (wk b d ls), s1, .val (.tup [.int lo, .int hi]), .val (.int (a : Int)), s4, s5, s6, s7, .no] = .ok (if canF ls S lo hi a = true then .nx else .rt (.val (.bl false))) π'
  | [], lo, hi, a, s4, s5, s6, s7, _, _ => ⟨_, rfl⟩
  | s :: S, lo, hi, a, s4, s5, s6, s7, hS, hs => by
    obtain ⟨hn, p, hp⟩ := hS s List.mem_cons_self
    have e1 := place_ok (b := b) (d := d) h hn hp
    rw [List.map_cons]
    unfold loopF canF
    rw [hp]
    have ht : tupT (consT (nameT 4) (consT (nameT 5) (nilT))) (snP s) [.val (wk b d ls), s1, .val (.tup [.int lo, .int hi]), .val (.int (a : Int)), s4, s5, s6, s7, .no] = some [.val (wk b d ls), s1, .val (.tup [.int lo, .int hi]), .val (.int (a : Int)), .val (nP' s.1), .val (.int s.2), s6, s7, .no] := by simp [snP, hs]
    rw [ht]
    by_cases q : p < a
    · have q' : (p : Int) < (a : Int) := by omega
      have hb : canB [.val (wk b d ls), s1, .val (.tup [.int lo, .int hi]), .val (.int (a : Int)), .val (nP' s.1), .val (.int s.2), s6, s7, .no] = .ok (.rt (.val (.bl false))) [.val (wk b d ls), s1, .val (.tup [.int lo, .int hi]), .val (.int (a : Int)), .val (nP' s.1), .val (.int s.2), .val (.int p), s7, .no] := by
        unfold canB
        simp only [wk] at e1 ⊢
        simp [e1, hs, q']
      simp only [hb, if_pos q]
      exact ⟨_, rfl⟩
    · have q' : ¬ (p : Int) < (a : Int) := by omega
      have hc : cutP (ls.map lgP) (some (a : Int)) (some ((p : Int) + 1)) = ((ls.take (p + 1)).drop a).map lgP := by
        rw [cut_mid (by omega) (by omega), show ((p : Int) + 1).toNat = p + 1 by omega, Int.toNat_natCast, List.map_drop, List.map_take]
      simp only [if_neg q]
      generalize (ls.take (p + 1)).drop a = ms at hc ⊢
      have c1 : ∀ s2 : Sl, _ := fun s2 => colc7 (ms := ms) (s0 := .val (wk b d ls)) (s1 := s1) (s2 := s2) (s3 := .val (.int (a : Int))) (s4 := .val (nP' s.1)) (s5 := .val (.int s.2)) (s6 := .val (.int (p : Int))) (fun x => ix_1 (x := x))
      have c2 : ∀ s2 : Sl, _ := fun s2 => colc7 (ms := ms) (s0 := .val (wk b d ls)) (s1 := s1) (s2 := s2) (s3 := .val (.int (a : Int))) (s4 := .val (nP' s.1)) (s5 := .val (.int s.2)) (s6 := .val (.int (p : Int))) (fun x => ix_2 (x := x))
      by_cases z : lo + sumG col1 ms ≤ s.2 ∧ s.2 ≤ hi + sumG col2 ms
      · have hb : canB [.val (wk b d ls), s1, .val (.tup [.int lo, .int hi]), .val (.int (a : Int)), .val (nP' s.1), .val (.int s.2), s6, s7, .no] = .ok .nx [.val (wk b d ls), s1, .val (.tup [.int s.2, .int s.2]), .val (.int ((p + 1 : Nat) : Int)), .val (nP' s.1), .val (.int s.2), .val (.int p), .val (.tup (ms.map lgP)), .no] := by
          unfold canB lc_Walk_can_be_1 lc_Walk_can_be_2
          simp only [wk] at e1 c1 c2 ⊢
          have z1 : lo + (ms.map col1).sum ≤ s.2 := z.1
          have z2 : s.2 ≤ hi + (ms.map col2).sum := z.2
          simp [e1, hs, q', hc, c1, c2, sumP_m, z1, z2, ixT]
        rw [if_pos z]
        simp only [hb]
        exact can_loop h S s.2 s.2 (p + 1) (.val (nP' s.1)) (.val (.int s.2)) (.val (.int p)) (.val (.tup (ms.map lgP))) (fun t ht => hS t (List.mem_cons_of_mem _ ht)) ⟨rfl, rfl, rfl, rfl⟩
      · have hb : ∃ π', canB [.val (wk b d ls), s1, .val (.tup [.int lo, .int hi]), .val (.int (a : Int)), .val (nP' s.1), .val (.int s.2), s6, s7, .no] = .ok (.rt (.val (.bl false))) π' := by
          refine ⟨[.val (wk b d ls), s1, .val (.tup [.int (lo + (ms.map col1).sum), .int (hi + (ms.map col2).sum)]), .val (.int (a : Int)), .val (nP' s.1), .val (.int s.2), .val (.int p), .val (.tup (ms.map lgP)), .no], ?_⟩
          unfold canB lc_Walk_can_be_1 lc_Walk_can_be_2
          simp only [wk] at e1 c1 c2 ⊢
          by_cases z1 : lo + (ms.map col1).sum ≤ s.2
          · have z2 : ¬ s.2 ≤ hi + (ms.map col2).sum := fun w => z ⟨z1, w⟩
            simp [e1, hs, q', hc, c1, c2, sumP_m, z1, z2, ixT]
          · simp [e1, hs, q', hc, c1, c2, sumP_m, z1, ixT]
        obtain ⟨π', hb⟩ := hb
        rw [if_neg z]
        simp only [hb]
        exact ⟨π', rfl⟩
theorem can_ok {S : List Sn} (h : ∀ x ∈ ls, okL x) (hS : ∀ s ∈ S, okN s.1 ∧ ∃ k, pl ls s.1 = some k) : FWalk_can_be [.val (wk b d ls), .val (.lst (S.map snP))] = .ok (.val (.bl (canF ls S b b 0))) [.val (wk b d ls), .val (.lst (S.map snP))] := by
  obtain ⟨π', e⟩ := can_loop (b := b) (d := d) (s1 := .val (.lst (S.map snP))) h S b b 0 .no .no .no .no hS ⟨rfl, rfl, rfl, rfl⟩
  unfold canB at e
  unfold FWalk_can_be BWalk_can_be fr_Walk_can_be_1
  simp only [wk] at e ⊢
  cases q : canF ls S b b 0 with
  | true =>
    rw [q] at e
    simp at e
    simp [e_for, e]
  | false =>
    rw [q] at e
    simp at e
    simp [e_for, e]
end
end PV

set_option maxHeartbeats 2000000
namespace PV
open PySem L2
/-- a part, slower -/
def slw1 (t p : Int) : Int := p + -((-p * t) / 10)
def slw (t : Int) (x : Lg) : Lg := (x.1, slw1 t x.2.1, slw1 t x.2.2.1, slw1 t x.2.2.2.1, slw1 t x.2.2.2.2)
def prt (x : Lg) : List Int := [x.2.1, x.2.2.1, x.2.2.2.1, x.2.2.2.2]
section
variable {ls : List Lg} {b d t : Int} {x : Lg} {s2 : Sl}
theorem prt_P : (lgI x).drop 1 = (prt x).map P.int := rfl
theorem prt_sm (h : okL x) : ∀ p ∈ prt x, 1 ≤ p ∧ p ≤ 300 := by
  obtain ⟨_, h2, h3⟩ := h
  intro p hp
  simp only [prt, List.mem_cons, List.not_mem_nil, or_false] at hp
  rcases hp with rfl | rfl | rfl | rfl <;> omega
theorem slow_lc (h : okL x) (ht : 0 ≤ t ∧ t ≤ 100) : lc_Walk_slower_1 [.val (wk b d ls), .val (.int t), s2, .val (lgP x), .no] = .ok (.own (.lst ((prt x).map fun p => P.int (slw1 t p)))) [.val (wk b d ls), .val (.int t), s2, .val (lgP x), .no] := by
  unfold lc_Walk_slower_1
  have hc : cutP (lgI x) (some 1) none = (prt x).map P.int := by rw [cut_from (by omega)]; rfl
  refine lc_map (item := P.int) (prt x) (by simp [lgP, hc]) (by simp [chk]) (fun p hp => ?_) (by simp [restE, wipeE])
  have hb := prt_sm h p hp
  have hm : mulP (.int (-p)) (.int t) = some (.val (.int (-p * t))) := mulP_sm (by unfold Sm; omega) (by unfold Sm; omega)
  have hd : ∀ i : Int, fdivP (.int i) (.int 10) = some (.val (.int (i / 10))) := fun i => fdivP_sm (by unfold Sm; omega) (by omega)
  refine ⟨[.val (wk b d ls), .val (.int t), s2, .val (lgP x), .val (.int p)], by simp [wipeE], ?_, by simp [chk], by simp [wipeE]⟩
  simp [hm, hd, slw1]
theorem slow_ok (hw : OkW b d (ls.map (slw t))) (h : ∀ x ∈ ls, okL x) (hl : ls.length ≤ 10) (ht : 0 ≤ t ∧ t ≤ 100) : FWalk_slower [.val (wk b d ls), .val (.int t)] = .ok (.own (.obj 6 [.int b, .int d, .tup ((ls.map (slw t)).map lgP)])) [.val (wk b d ls), .val (.int t)] := by
  obtain ⟨π', k1, k2⟩ := loop_inv (t := nameT 3) (fb := dropF (mutF appP 2 (consF (valF (takeF (binF addP (slF (varF 3) (noP) (inP (cF (.int 1)))) (calF tupleP (consF (lc_Walk_slower_1) (nilF)))))) (nilF)))) lgP
    (fun e π => ∃ s3, slLo s3 = false ∧ π = [.val (wk b d ls), .val (.int t), .own (.lst ((e.map (slw t)).map lgP)), s3, .no])
    ls (fun e x r π hd ⟨s3, hs, hπ⟩ => by
      subst hπ
      have hx : x ∈ ls := by rw [hd]; simp
      have hlen : e.length ≤ 10 := by
        have := congrArg List.length hd
        simp at this
        omega
      have e1 := slow_lc (b := b) (d := d) (ls := ls) (s2 := .own (.lst ((e.map (slw t)).map lgP))) (h x hx) ht
      have hc : cutP (lgI x) none (some 1) = [nP' x.1] := by rw [cut_to (by omega)]; rfl
      refine ⟨[.val (wk b d ls), .val (.int t), .own (.lst ((e.map (slw t)).map lgP)), .val (lgP x), .no], [.val (wk b d ls), .val (.int t), .own (.lst (((e ++ [x]).map (slw t)).map lgP)), .val (lgP x), .no], by simp [hs], ?_, _, rfl, rfl⟩
      have hl2 : e.length ≤ 1000000 := by omega
      have hl3 : slP (lgP x) none (some 1) = some (.val (.tup [nP' x.1])) := by unfold lgP; rw [slP_t, hc]
      simp only [List.map_map] at e1
      simp [e1, hl3, appP, hl2, prt]
      rfl)
    [.val (wk b d ls), .val (.int t), .own (.lst []), .no, .no] ⟨.no, rfl, rfl⟩
  obtain ⟨s3, hs, rfl⟩ := k2
  have e := init_ok (b := b) (d := d) (want_any true hw.ok hw.le) hw.ok hw.nd hw.b0 hw.d0
  simp only [mixP, if_true] at e
  unfold FWalk_slower BWalk_slower fr_Walk_slower_1
  simp only [wk] at k1 ⊢
  simp only [List.map_map] at k1 e ⊢
  simp [e_for, k1, e]
end
end PV

set_option maxHeartbeats 2000000
namespace PV
open PySem L2
theorem cQ : ("q" : Str) = tx [113] := by decide +kernel
def strn (k : Nat) : List Nat := 113 :: dgs k
theorem okN_strn {k : Nat} (hk : k < 400) : okN (strn k) := by
  have hd := dg_len k
  refine ⟨by simp [strn], by simp [strn]; omega, ⟨113, dgs k, rfl, by decide⟩, ?_⟩
  intro n hn
  unfold strn at hn
  rw [List.mem_cons] at hn
  rcases hn with rfl | hn
  · exact .inl (by decide)
  · exact .inr (dg_fg k hk n hn)
section
variable {N : List (List Nat)} {s0 s1 : Sl}
theorem str_lc : lc__law_strange_1 [s0, s1, .no] = .ok (.own (.lst ((List.range 400).map fun k => nP' (strn k)))) [s0, s1, .no] := by
  unfold lc__law_strange_1
  rw [cQ]
  refine lc_map (item := fun (k : Nat) => P.int (k : Int)) (List.range 400) (by simp [rng_pos]) (by simp [chk]) (fun k hk => ?_) (by simp [restE, wipeE])
  rw [List.mem_range] at hk
  have hd := dg_len k
  have ha : addP (.str (tx [113])) (.str (tx (dgs k))) = some (.val (.str (tx (strn k)))) := addTx (by simp; omega)
  refine ⟨[s0, s1, .val (.int k)], by simp [wipeE], ?_, by simp [chk], by simp [wipeE]⟩
  simp [str_dgs k hk, ha, nP']
theorem strange_ok (hN : ∀ n ∈ N, okN n) (hl : N.length ≤ 100) : ∃ n, (okN n ∧ n ∉ N) ∧ F_law_strange [.val (.lst (N.map nP'))] = .ok (.val (nP' n)) [.val (.lst (N.map nP'))] := by
  have e1 := str_lc (s0 := .val (.lst (N.map nP'))) (s1 := .no)
  have e2 : lc__law_strange_2 [.val (.lst (N.map nP')), .no, .no] = .ok (.own (.lst (((List.range 400).filter fun k => !decide (strn k ∈ N)).map fun k => nP' (strn k)))) [.val (.lst (N.map nP')), .no, .no] := by
    unfold lc__law_strange_2
    refine lc_pure (item := fun k => nP' (strn k)) (List.range 400) (by simp [e1]) (by simp [chk]) (fun k hk => ?_) (by simp [restE, wipeE])
    rw [List.mem_range] at hk
    have hi := inN (l := strn k) true (okN_strn hk) hN
    refine ⟨[.val (.lst (N.map nP')), .val (nP' (strn k)), .no], by simp [wipeE], ?_, fun _ => ?_, by simp [chk], by simp [wipeE]⟩
    · simp [hi]
    · simp
  cases e : (List.range 400).filter fun k => !decide (strn k ∈ N) with
  | nil =>
    rw [List.filter_eq_nil_iff] at e
    have hn : ((List.range 400).map strn).Nodup := by
      rw [List.nodup_iff_pairwise_ne, List.pairwise_map]
      refine List.Pairwise.imp_of_mem (fun {a b} ha hb hab q => hab ?_) List.nodup_range
      rw [List.mem_range] at ha hb
      unfold strn at q
      exact dg_inj a b ha hb (List.cons.inj q).2
    have := pigeon _ N hn fun x hx => by
      obtain ⟨k, hk, rfl⟩ := List.mem_map.mp hx
      have := e k hk
      simpa using this
    simp at this
    omega
  | cons k r =>
    have hm : k ∈ (List.range 400).filter fun k => !decide (strn k ∈ N) := by rw [e]; exact List.mem_cons_self
    rw [List.mem_filter, List.mem_range] at hm
    rw [e] at e2
    refine ⟨strn k, ⟨okN_strn hm.1, by simpa using hm.2⟩, ?_⟩
    unfold F_law_strange B_law_strange
    simp [e2, ixL]
end
end PV

set_option maxHeartbeats 2000000
namespace PV
open PySem L2
section
variable {ns : List Int} {v : Sl} {π0 : En}
noncomputable def smT : M Bool := tstF (binF eqP (callF (F_law_taken) (consF (varF 0) (consF (cF (.int 2)) (nilF)))) (cF (.int 1)))
theorem some_loop : ∀ (S : List Sn) (acc : List P) (o : List P), Row ns o → ∃ (S' : List Sn) (o' : List P), S'.Sublist S ∧ Row ns o' ∧
    lcLoop (nameT 2) smT (takeF (varF 2)) [2] π0 (S.map snP) acc [.loan (.lst o), v, .no] = .ok (.own (.lst (acc ++ S'.map snP))) (restE π0 [.loan (.lst o'), v, .no] [2])
  | [], acc, o, h => ⟨[], o, List.Sublist.refl _, h, by simp [lcLoop]⟩
  | s :: S, acc, o, h => by
    obtain ⟨w, o2, hw, h2, e⟩ := drawl (π := [.loan (.lst o), v, .val (snP s)]) (i := 0) (m := 2) h (by omega) (by unfold Sm; omega) rfl
    have et : smT [.loan (.lst o), v, .val (snP s)] = .ok (decide (w = 1)) [.loan (.lst o2), v, .val (snP s)] := by
      unfold smT
      simp [e]
    rw [List.map_cons]
    unfold lcLoop
    have e0 : nameT 2 (snP s) [.loan (.lst o), v, .no] = some [.loan (.lst o), v, .val (snP s)] := by simp
    simp only [e0, et]
    by_cases q : w = 1
    · obtain ⟨S', o', h3, h4, e5⟩ := some_loop S (acc ++ [snP s]) o2 h2
      refine ⟨s :: S', o', h3.cons₂ s, h4, ?_⟩
      simp [q, chk, wipeE]
      simpa using e5
    · obtain ⟨S', o', h3, h4, e5⟩ := some_loop S acc o2 h2
      refine ⟨S', o', h3.cons s, h4, ?_⟩
      simp [q, chk, wipeE]
      simpa using e5
theorem some_ok {S : List Sn} {o : List P} (h : Row ns o) : ∃ (S' : List Sn) (o' : List P), S'.Sublist S ∧ Row ns o' ∧
    F_law_some [.loan (.lst o), .val (.lst (S.map snP))] = .ok (.own (.lst (S'.map snP))) [.loan (.lst o'), .val (.lst (S.map snP))] := by
  obtain ⟨S', o', h1, h2, e⟩ := some_loop (v := .val (.lst (S.map snP))) (π0 := [.loan (.lst o), .val (.lst (S.map snP)), .no]) S [] o h
  refine ⟨S', o', h1, h2, ?_⟩
  have e2 : lc__law_some_1 [.loan (.lst o), .val (.lst (S.map snP)), .no] = .ok (.own (.lst (S'.map snP))) [.loan (.lst o'), .val (.lst (S.map snP)), .no] := by
    unfold lc__law_some_1 lcF
    unfold smT at e
    have e3 : itF (takeF (varF 1)) [.loan (.lst o), .val (.lst (S.map snP)), .no] = .ok (S.map snP) [.loan (.lst o), .val (.lst (S.map snP)), .no] := by simp
    simp only [e3, e_bok]
    rw [if_pos (by simp [chk])]
    refine Eq.trans e ?_
    simp [restE]
  unfold F_law_some B_law_some
  simp [e2]
end
theorem minute_ok {m : Int} (h : 0 ≤ m ∧ m ≤ 1440) : Fwant_minute [.val (.int m)] = .ok (.val (.int m)) [.val (.int m)] := by
  unfold Fwant_minute Bwant_minute
  simp [number_int, h]
end PV

set_option maxHeartbeats 2000000
namespace PV
open PySem L2
/-- a number that is none for the walk -/
def badN (p : P) : Prop := p = .int (-1) ∨ p = .int 1441 ∨ p = .bl true ∨ p = .non
theorem want_badN {p : P} {a : Int} (h : badN p) (ha : 0 ≤ a) : Fwant_number [.val p, .val (.int a), .val (.int 1440)] = .exc 1 [p] [.val p, .val (.int a), .val (.int 1440)] := by
  rcases h with rfl | rfl | rfl | rfl
  · rw [want_int, if_neg (by omega)]
  · rw [want_int, if_neg (by omega)]
  · unfold Fwant_number Bwant_number Fis_number Bis_number Fis_whole Bis_whole
    simp
  · unfold Fwant_number Bwant_number Fis_number Bis_number Fis_whole Bis_whole
    simp
theorem minute_bad {p : P} (h : badN p) : ∃ as, Fwant_minute [.val p] = .exc 2 [p] as := by
  rcases h with rfl | rfl | rfl | rfl
  · unfold Fwant_minute Bwant_minute
    simp [number_int]
  · unfold Fwant_minute Bwant_minute
    simp [number_int]
  · unfold Fwant_minute Bwant_minute Fis_number Bis_number Fis_whole Bis_whole
    simp
  · unfold Fwant_minute Bwant_minute Fis_number Bis_number Fis_whole Bis_whole
    simp
theorem init_b {p q r : P} (h : badN p) : ∃ as, FWalk_init [.loan (.obj 6 []), .val p, .val q, .val r] = .exc 1 [p] as := by
  have e := want_badN h (a := 0) (by omega)
  unfold FWalk_init BWalk_init
  simp [e]
theorem init_d {b : Int} {p r : P} (h : badN p) (hb : 0 ≤ b ∧ b ≤ 1440) : ∃ as, FWalk_init [.loan (.obj 6 []), .val (.int b), .val p, .val r] = .exc 1 [p] as := by
  have e := want_badN h (a := b) hb.1
  unfold FWalk_init BWalk_init
  simp [want_int, hb, e]
theorem init_54 {r : P} : ∃ as, FWalk_init [.loan (.obj 6 []), .val (.int 5), .val (.int 4), .val r] = .exc 1 [.int 4] as := by
  unfold FWalk_init BWalk_init
  simp [want_int]
theorem init_r {b d : Int} {r : P} {C : Nat} {ps : List P} {as : List Sl} (hb : 0 ≤ b ∧ b ≤ 1440) (hd : b ≤ d ∧ d ≤ 1440) (hw : Fwant_row [.val r, .val (.fn 0), .val (.int 10)] = .exc C ps as) : ∃ as', FWalk_init [.loan (.obj 6 []), .val (.int b), .val (.int d), .val r] = .exc C ps as' := by
  unfold FWalk_init BWalk_init
  simp [want_int, hb, hd, hw]
end PV

set_option maxHeartbeats 2000000
namespace PV
open PySem L2
/-- a name twice -/
theorem init_two {b d : Int} {x : Lg} (hb : 0 ≤ b ∧ b ≤ 1440) (hd : b ≤ d ∧ d ≤ 1440) (hx : okL x) : ∃ as, FWalk_init [.loan (.obj 6 []), .val (.int b), .val (.int d), .val (.tup [lgP x, lgP x])] = .exc 5 [nP' x.1] as := by
  have hw := want_any (ds := [x, x]) false (by simp [hx]) (by simp)
  have e2 := init_lc (ls := [x, x]) (b := b) (d := d) (s1 := .val (.int b)) (s2 := .val (.int d)) (s3 := .val (.tup [lgP x, lgP x])) (s4 := .no) (s5 := .no) (s6 := .no) (q := .no)
  simp only [mixP, Bool.false_eq_true, if_false, List.map_cons, List.map_nil] at hw e2
  have i0 : inXP false (nP' x.1) (.lst []) = some (.val (.bl false)) := inN (l := x.1) (F := []) false hx.1 (by simp)
  have i1 : inXP false (nP' x.1) (.lst [nP' x.1]) = some (.val (.bl true)) := by
    have := inN (l := x.1) (F := [x.1]) false hx.1 (by simp [hx.1])
    simpa using this
  have c0 : cutP [nP' x.1, nP' x.1] none (some ((0 : Nat) : Int)) = [] := by rw [cut_to (by omega)]; rfl
  have c1 : cutP [nP' x.1, nP' x.1] none (some ((1 : Nat) : Int)) = [nP' x.1] := by rw [cut_to (by omega)]; rfl
  have en : enumP 0 [nP' x.1, nP' x.1] = [.tup [.int ((0 : Nat) : Int), nP' x.1], .tup [.int ((1 : Nat) : Int), nP' x.1]] := rfl
  unfold FWalk_init BWalk_init fr_Walk_init_1
  simp [want_int, hb, hd, hw, e2, e_for, en, loopF]
  have c0' : cutP [nP' x.1, nP' x.1] none (some 0) = [] := c0
  have c1' : cutP [nP' x.1, nP' x.1] none (some 1) = [nP' x.1] := c1
  simp [c0', c1', i0, i1]
end PV

set_option maxHeartbeats 2000000
namespace PV
open PySem L2
theorem cA : ("a" : Str) = tx [97] := by decide +kernel
theorem cE : ("" : Str) = tx [] := by decide +kernel
theorem okA : okN [97] := ⟨by simp, by simp, ⟨97, [], rfl, by decide⟩, fun n hn => by rw [List.mem_singleton] at hn; subst hn; exact .inl (by decide)⟩
theorem isname_nil : Fis_name [.val (nP' [])] = .ok (.val (.bl false)) [.val (nP' [])] := by
  have hlen : lenP [nP' []] = some (.val (.int 0)) := lenTx (l := []) (by simp)
  have i1 : isiP' [nP' [], .ty "str"] = some (.val (.bl true)) := rfl
  unfold Fis_name Bis_name
  simp [hlen, i1]
theorem leg_bad {p : P} (h : p ∈ [.tup [nP' [], .int 1, .int 1, .int 1, .int 1], .tup [nP' [97], .int 0, .int 1, .int 1, .int 1], .tup [nP' [97], .int 2, .int 1, .int 1, .int 1], .tup [nP' [97], .int 1, .int 1, .int 2, .int 1], .tup [nP' [97], .int 1, .int 301, .int 1, .int 1], .tup [nP' [97], .int 1, .int 1, .int 1], .non]) : Fis_leg [.val p] = .ok (.val (.bl false)) [.val p] := by
  have e0 := isname_nil
  have e1 := isname_ok okA
  simp only [List.mem_cons, List.not_mem_nil, or_false] at h
  unfold Fis_leg Bis_leg fr_is_leg_1
  rcases h with rfl | rfl | rfl | rfl | rfl | rfl | rfl
  all_goals simp [row_tup, row_non, e0, e1, ixT, e_for, loopF, number_int]
end PV

set_option maxHeartbeats 2000000
namespace PV
open PySem L2
theorem slw1_eq (t p : Int) : slw1 t p = p + (p * t + 9) / 10 := by
  unfold slw1
  rw [Int.neg_mul]
  generalize p * t = x
  omega
theorem slw1_le {t p : Int} (ht : 0 ≤ t ∧ t ≤ 10) (hp : 1 ≤ p ∧ p ≤ 60) : p ≤ slw1 t p ∧ slw1 t p ≤ 120 := by
  rw [slw1_eq]
  have h1 : 0 ≤ p * t := Int.mul_nonneg (by omega) ht.1
  have h2 : p * t ≤ p * 10 := Int.mul_le_mul_of_nonneg_left ht.2 (by omega)
  omega
theorem slw1_mono {t p q : Int} (ht : 0 ≤ t ∧ t ≤ 10) (hp : p ≤ q) : slw1 t p ≤ slw1 t q := by
  rw [slw1_eq, slw1_eq]
  have h2 : p * t ≤ q * t := Int.mul_le_mul_of_nonneg_right hp ht.1
  omega
/-- legs as the law draws them, walked slower -/
theorem okW_slow {b d t : Int} {ls : List Lg} (h : OkW b d ls) (h60 : ∀ x ∈ ls, ∀ p ∈ prt x, p ≤ 60) (ht : 0 ≤ t ∧ t ≤ 10) : OkW b d (ls.map (slw t)) := by
  refine ⟨by rw [List.length_map]; exact h.le, fun y hy => ?_, ?_, h.b0, h.d0⟩
  · obtain ⟨x, hx, rfl⟩ := List.mem_map.mp hy
    have q : ∀ p ∈ prt x, p ≤ slw1 t p ∧ slw1 t p ≤ 120 := fun p hp => slw1_le ht ⟨(prt_sm (h.ok x hx) p hp).1, h60 x hx p hp⟩
    obtain ⟨h1, h2, h3⟩ := h.ok x hx
    have q1 := q x.2.1 (by simp [prt])
    have q2 := q x.2.2.1 (by simp [prt])
    have q3 := q x.2.2.2.1 (by simp [prt])
    have q4 := q x.2.2.2.2 (by simp [prt])
    have m1 := slw1_mono ht h2.2.1
    have m2 := slw1_mono ht h3.2.1
    exact ⟨h1, ⟨by show 1 ≤ slw1 t x.2.1; omega, m1, by show slw1 t x.2.2.1 ≤ 300; omega⟩, by show 1 ≤ slw1 t x.2.2.2.1; omega, m2, by show slw1 t x.2.2.2.2 ≤ 300; omega⟩
  · rw [List.map_map]
    exact h.nd
end PV

set_option maxHeartbeats 2000000
namespace PV
open PySem L2
def kindW (C : Nat) : Str := if C = 1 then "number" else if C = 2 then "item" else if C = 3 then "many" else "taken"
theorem raised_ok {b d l p : P} {C : Nat} (hC : C = 1 ∨ C = 2 ∨ C = 3 ∨ C = 5) (h : ∃ as, FWalk_init [.loan (.obj 6 []), .val b, .val d, .val l] = .exc C [p] as) :
    F_law_raised [.val (.tup [b, d, l])] = .ok (.val (.tup [.str (kindW C), p])) [.val (.tup [b, d, l])] := by
  obtain ⟨as, e⟩ := h
  unfold F_law_raised B_law_raised
  rcases hC with rfl | rfl | rfl | rfl <;> simp [ixT, e, sub_k15, kindW]
end PV

set_option maxHeartbeats 2000000
namespace PV
open PySem L2
section
variable {ls : List Lg} {b d : Int} {n : List Nat}
theorem arrives_x (h : ∀ x ∈ ls, okL x) (hn : okN n) (hk : n ∉ ls.map Prod.fst) : ∃ as, FWalk_arrives [.val (wk b d ls), .val (nP' n)] = .exc 4 [nP' n] as := by
  obtain ⟨as, e⟩ := place_x (b := b) (d := d) h hn hk
  unfold FWalk_arrives BWalk_arrives
  simp only [wk] at e ⊢
  simp [e]
theorem back_x (h : ∀ x ∈ ls, okL x) (hn : okN n) (hk : n ∉ ls.map Prod.fst) : ∃ as, FWalk_back [.val (wk b d ls), .val (nP' n)] = .exc 4 [nP' n] as := by
  obtain ⟨as, e⟩ := place_x (b := b) (d := d) h hn hk
  unfold FWalk_back BWalk_back
  simp only [wk] at e ⊢
  simp [e]
theorem turn_x (h : ∀ x ∈ ls, okL x) (hn : okN n) (hk : n ∉ ls.map Prod.fst) : ∃ as, FWalk_turn_at [.val (wk b d ls), .val (nP' n)] = .exc 4 [nP' n] as := by
  obtain ⟨as, e⟩ := back_x (b := b) (d := d) h hn hk
  unfold FWalk_turn_at BWalk_turn_at
  simp only [wk] at e ⊢
  simp [e]
theorem must_x {m : Int} (h : ∀ x ∈ ls, okL x) (hn : okN n) (hk : n ∉ ls.map Prod.fst) : ∃ as, FWalk_must_turn [.val (wk b d ls), .val (.lst [.tup [nP' n, .int m]])] = .exc 4 [nP' n] as := by
  obtain ⟨as, e⟩ := turn_x (b := b) (d := d) h hn hk
  unfold FWalk_must_turn BWalk_must_turn fr_Walk_must_turn_1
  simp only [wk] at e ⊢
  simp [e, e_for, loopF]
theorem can_x {m : Int} (h : ∀ x ∈ ls, okL x) (hn : okN n) (hk : n ∉ ls.map Prod.fst) : ∃ as, FWalk_can_be [.val (wk b d ls), .val (.lst [.tup [nP' n, .int m]])] = .exc 4 [nP' n] as := by
  obtain ⟨as, e⟩ := place_x (b := b) (d := d) h hn hk
  unfold FWalk_can_be BWalk_can_be fr_Walk_can_be_1
  simp only [wk] at e ⊢
  simp [e, e_for, loopF]
end
end PV

set_option maxHeartbeats 2000000
namespace PV
open PySem L2
/-- the slots of _law_refused -/
def RW (o : List P) (w t ns n : P) (s5 s6 s7 s8 s9 s10 s11 s12 : Sl) : En := [.loan (.lst o), .val w, .val t, .val ns, .val n, s5, s6, s7, s8, s9, s10, s11, s12, .no, .no, .no]
section
variable {ls : List Lg} {b d : Int} {n : List Nat} {o : List P} {t ns : P} {s5 s6 s7 s8 s9 s10 s11 s12 : Sl}
theorem ref1 (h : ∀ x ∈ ls, okL x) (hn : okN n) (hk : n ∉ ls.map Prod.fst) (h5 : slLo s5 = false) : ∃ t5, slLo t5 = false ∧ fr__law_refused_1 (RW o (wk b d ls) t ns (nP' n) s5 s6 s7 s8 s9 s10 s11 s12) = .ok .nx (RW o (wk b d ls) t ns (nP' n) t5 s6 s7 s8 s9 s10 s11 s12) := by
  obtain ⟨a0, p0⟩ := place_x (b := b) (d := d) h hn hk
  obtain ⟨a1, p1⟩ := arrives_x (b := b) (d := d) h hn hk
  obtain ⟨a2, p2⟩ := turn_x (b := b) (d := d) h hn hk
  obtain ⟨a3, p3⟩ := must_x (b := b) (d := d) (m := 1) h hn hk
  obtain ⟨a4, p4⟩ := can_x (b := b) (d := d) (m := 1) h hn hk
  have hq : neP (nP' n) (nP' n) = some (.val (.bl false)) := neP_rf (dat_N hn)
  simp only [wk] at p0 p1 p2 p3 p4 ⊢
  refine ⟨.val (.int 4), rfl, ?_⟩
  unfold fr__law_refused_1 RW
  have hr : rngP 0 5 = [.int 0, .int 1, .int 2, .int 3, .int 4] := rfl
  simp [e_for, hr, loopF, h5, p0, p1, p2, p3, p4, hq, sub_k15]
end
end PV

set_option maxHeartbeats 2000000
namespace PV
open PySem L2
theorem repr_dec {p : P} (hp : (dat 60 p && (toD p).showable && !(toD p).hasDict && decide ((toD p).shown.length ≤ 1000000) && PyData.strOk (toD p).shown) = true) : ∃ s, reprP [p] = some (.val (.str s)) ∧ PyData.strOk s = true := by
  simp only [Bool.and_eq_true, decide_eq_true_eq, Bool.not_eq_true'] at hp
  refine ⟨(toD p).shown, ?_, hp.2⟩
  unfold reprP
  simp only []
  rw [if_pos ⟨hp.1.1.1.1, hp.1.1.1.2, hp.1.1.2, hp.1.2⟩]
theorem neP_strOk {s : Str} (h : PyData.strOk s = true) : neP (.str s) (.str s) = some (.val (.bl false)) := neP_rf (by rw [dat_str]; exact h)
section
variable {o : List P} {w t ns n : P} {s5 s6 s7 s8 s9 s10 s11 s12 : Sl}
theorem ref2 (h6 : slLo s6 = false) : ∃ t6, slLo t6 = false ∧ fr__law_refused_2 (RW o w t ns n s5 s6 s7 s8 s9 s10 s11 s12) = .ok .nx (RW o w t ns n s5 t6 s7 s8 s9 s10 s11 s12) := by
  obtain ⟨a0, p0⟩ := minute_bad (p := .int (-1)) (.inl rfl)
  obtain ⟨a1, p1⟩ := minute_bad (p := .int 1441) (.inr (.inl rfl))
  obtain ⟨a2, p2⟩ := minute_bad (p := .bl true) (.inr (.inr (.inl rfl)))
  obtain ⟨a3, p3⟩ := minute_bad (p := .non) (.inr (.inr (.inr rfl)))
  obtain ⟨r0, q0, k0⟩ := repr_dec (p := .int (-1)) (by decide +kernel)
  obtain ⟨r1, q1, k1⟩ := repr_dec (p := .int 1441) (by decide +kernel)
  obtain ⟨r2, q2, k2⟩ := repr_dec (p := .bl true) (by decide +kernel)
  obtain ⟨r3, q3, k3⟩ := repr_dec (p := .non) (by decide +kernel)
  refine ⟨.val .non, rfl, ?_⟩
  unfold fr__law_refused_2 RW
  simp [e_for, loopF, h6, p0, p1, p2, p3, q0, q1, q2, q3, neP_strOk k0, neP_strOk k1, neP_strOk k2, neP_strOk k3, sub_k15]
end
end PV

set_option maxHeartbeats 2000000
namespace PV
open PySem L2
theorem cN : ("n" : Str) = tx [110] := by decide +kernel
def nn (k : Nat) : Lg := (110 :: dgs k, 1, 1, 1, 1)
theorem okL_nn {k : Nat} (hk : k < 400) : okL (nn k) := by
  have hd := dg_len k
  refine ⟨⟨by simp [nn], by simp [nn]; omega, ⟨110, dgs k, rfl, by decide⟩, ?_⟩, by simp [nn], by simp [nn]⟩
  intro n hn
  simp only [nn, List.mem_cons] at hn
  rcases hn with rfl | hn
  · exact .inl (by decide)
  · exact .inr (dg_fg k hk n hn)
section
variable {o : List P} {w t ns n : P} {s5 s6 s7 s8 s9 s10 s11 s12 : Sl}
theorem lc11 : lc__law_refused_1 (RW o w t ns n s5 s6 s7 s8 s9 s10 s11 s12) = .ok (.own (.lst ((List.range 11).map fun k => lgP (nn k)))) (RW o w t ns n s5 s6 s7 s8 s9 s10 s11 s12) := by
  unfold lc__law_refused_1 RW
  rw [cN]
  refine lc_map (item := fun (k : Nat) => P.int (k : Int)) (List.range 11) (by simp [rng_pos]) (by simp [chk]) (fun k hk => ?_) (by simp [restE, wipeE])
  rw [List.mem_range] at hk
  have hd := dg_len k
  have ha : addP (.str (tx [110])) (.str (tx (dgs k))) = some (.val (.str (tx (110 :: dgs k)))) := addTx (by simp; omega)
  refine ⟨[.loan (.lst o), .val w, .val t, .val ns, .val n, s5, s6, s7, s8, s9, s10, s11, s12, .no, .no, .val (.int k)], by simp [wipeE], ?_, by simp [chk], by simp [wipeE]⟩
  simp [str_dgs k (by omega), ha, nP', nn, lgP, lgI]
theorem init_many {b d : Int} (hb : 0 ≤ b ∧ b ≤ 1440) (hd : b ≤ d ∧ d ≤ 1440) : ∃ as, FWalk_init [.loan (.obj 6 []), .val (.int b), .val (.int d), .val (.lst ((List.range 11).map fun k => lgP (nn k)))] = .exc 3 [.int 10] as := by
  refine init_r hb hd (want_many (m := 10) (rows := (List.range 11).map fun k => lgP (nn k)) (.inl rfl) (fun p hp => ?_) (by simp))
  obtain ⟨k, hk, rfl⟩ := List.mem_map.mp hp
  rw [List.mem_range] at hk
  exact leg_ok (s := false) (okL_nn (by omega))
theorem init_nonrow {b d : Int} (hb : 0 ≤ b ∧ b ≤ 1440) (hd : b ≤ d ∧ d ≤ 1440) : ∃ as, FWalk_init [.loan (.obj 6 []), .val (.int b), .val (.int d), .val .non] = .exc 2 [.non] as := init_r hb hd want_non
end
end PV

set_option maxHeartbeats 2000000
namespace PV
open PySem L2
noncomputable def okP (p : P) : Bool := match Fis_leg [.val p] with
  | .ok (.val (.bl u)) _ => u
  | _ => false
/-- the bad legs of the law -/
def badL : List P := [.tup [nP' [], .int 1, .int 1, .int 1, .int 1], .tup [nP' [97], .int 0, .int 1, .int 1, .int 1], .tup [nP' [97], .int 2, .int 1, .int 1, .int 1], .tup [nP' [97], .int 1, .int 1, .int 2, .int 1], .tup [nP' [97], .int 1, .int 301, .int 1, .int 1], .tup [nP' [97], .int 1, .int 1, .int 1], .non]
theorem okP_leg {x : Lg} (h : okL x) : okP (lgP x) = true := by unfold okP; rw [show lgP x = mixP false (lgI x) from rfl, leg_ok h]
theorem okP_bad {p : P} (h : p ∈ badL) : okP p = false := by unfold okP; rw [leg_bad h]
theorem init_item {b d : Int} {ls : List Lg} {p : P} (hb : 0 ≤ b ∧ b ≤ 1440) (hd : b ≤ d ∧ d ≤ 1440) (h : ∀ x ∈ ls, okL x) (hp : p ∈ badL) : ∃ as, FWalk_init [.loan (.obj 6 []), .val (.int b), .val (.int d), .val (.tup (ls.map lgP ++ [p]))] = .exc 2 [.int (ls.length : Nat)] as := by
  refine init_r hb hd (want_bad (m := 10) (rows := ls.map lgP ++ [p]) (ok := okP) (k := ls.length) (b := p) (.inr rfl) (fun q hq => ?_) (by rw [List.getElem?_append_right (by simp)]; simp) (okP_bad hp) fun j hj q hq => ?_)
  · rw [List.mem_append, List.mem_singleton] at hq
    rcases hq with hq | rfl
    · obtain ⟨x, hx, rfl⟩ := List.mem_map.mp hq
      rw [okP_leg (h x hx)]
      exact leg_ok (s := false) (h x hx)
    · rw [okP_bad hp]
      exact leg_bad hp
  · rw [List.getElem?_append_left (by rw [List.length_map]; exact hj)] at hq
    obtain ⟨x, hx, rfl⟩ := List.mem_map.mp (List.mem_of_getElem? hq)
    exact okP_leg (h x hx)
end PV

set_option maxHeartbeats 2000000
namespace PV
open PySem L2
/-- a told making that fails, and what is due -/
structure Rfw (x : P × P) : Prop where
  told : F_law_raised [.val x.1] = .ok (.val x.2) [.val x.1]
  same : F_law_refused_row [.val x.2, .val x.2] = .ok (.val (.bl true)) [.val x.2, .val x.2]
theorem rrow_same {k p : P} (hd : dat 60 (.tup [k, p]) = true) (hw : ∃ u, F_law_whole [.val p] = .ok (.val (.bl u)) [.val p]) : F_law_refused_row [.val (.tup [k, p]), .val (.tup [k, p])] = .ok (.val (.bl true)) [.val (.tup [k, p]), .val (.tup [k, p])] := by
  obtain ⟨u, e⟩ := hw
  have h1 := eqP_rf hd
  unfold F_law_refused_row B_law_refused_row
  simp [h1, ixT, e]
theorem whole_of {p : P} (h : p = .non ∨ (∃ i, p = .int i) ∨ (∃ u, p = .bl u) ∨ ∃ s, p = .str s) : ∃ u, F_law_whole [.val p] = .ok (.val (.bl u)) [.val p] := by
  unfold F_law_whole B_law_whole
  rcases h with rfl | ⟨i, rfl⟩ | ⟨u, rfl⟩ | ⟨s, rfl⟩
  · exact ⟨false, by simp⟩
  · exact ⟨true, by simp⟩
  · exact ⟨false, by simp⟩
  · exact ⟨false, by simp⟩
end PV

set_option maxHeartbeats 2000000
namespace PV
open PySem L2
theorem strOk_kind (C : Nat) : PyData.strOk (kindW C) = true := by
  unfold kindW
  split
  · decide +kernel
  · split
    · decide +kernel
    · split <;> decide +kernel
theorem rfw_of {b d l p : P} {C : Nat} (hC : C = 1 ∨ C = 2 ∨ C = 3 ∨ C = 5) (h : ∃ as, FWalk_init [.loan (.obj 6 []), .val b, .val d, .val l] = .exc C [p] as) (hd : dat 59 p = true) (hp : p = .non ∨ (∃ i, p = .int i) ∨ (∃ u, p = .bl u) ∨ ∃ s, p = .str s) : Rfw (.tup [b, d, l], .tup [.str (kindW C), p]) :=
  ⟨raised_ok hC h, rrow_same (by simp [hd, strOk_kind]) (whole_of hp)⟩
def aa : Lg := ([97], 1, 1, 1, 1)
theorem okL_aa : okL aa := ⟨okA, by simp [aa], by simp [aa]⟩
def chkW (b d : Int) (ls : List Lg) (q v : P) : List (P × P) :=
  [(.tup [v, .int 1440, .tup []], .tup [.str (kindW 1), v]), (.tup [.int 5, v, .tup []], .tup [.str (kindW 1), v]), (.tup [.int 5, .int 4, .tup []], .tup [.str (kindW 1), .int 4]),
   (.tup [.int b, .int d, .tup (ls.map lgP ++ [q])], .tup [.str (kindW 2), .int (ls.length : Nat)]), (.tup [.int b, .int d, .non], .tup [.str (kindW 2), .non]),
   (.tup [.int b, .int d, .lst ((List.range 11).map fun k => lgP (nn k))], .tup [.str (kindW 3), .int 10]), (.tup [.int b, .int d, .tup [lgP aa, lgP aa]], .tup [.str (kindW 5), nP' aa.1])]
theorem chkW_ok {b d : Int} {ls : List Lg} {q v : P} (hb : 0 ≤ b ∧ b ≤ 1440) (hd : b ≤ d ∧ d ≤ 1440) (h : ∀ x ∈ ls, okL x) (hq : q ∈ badL) (hv : badN v) : ∀ x ∈ chkW b d ls q v, Rfw x := by
  have v1 : dat 59 v = true := by rcases hv with rfl | rfl | rfl | rfl <;> simp
  have v2 : v = .non ∨ (∃ i, v = .int i) ∨ (∃ u, v = .bl u) ∨ ∃ s, v = .str s := by
    rcases hv with rfl | rfl | rfl | rfl
    · exact .inr (.inl ⟨_, rfl⟩)
    · exact .inr (.inl ⟨_, rfl⟩)
    · exact .inr (.inr (.inl ⟨_, rfl⟩))
    · exact .inl rfl
  intro x hx
  simp only [chkW, List.mem_cons, List.not_mem_nil, or_false] at hx
  rcases hx with rfl | rfl | rfl | rfl | rfl | rfl | rfl
  · exact rfw_of (.inl rfl) (init_b hv) v1 v2
  · exact rfw_of (.inl rfl) (init_d hv (by omega)) v1 v2
  · exact rfw_of (.inl rfl) init_54 (by simp) (.inr (.inl ⟨_, rfl⟩))
  · exact rfw_of (.inr (.inl rfl)) (init_item hb hd h hq) (by simp) (.inr (.inl ⟨_, rfl⟩))
  · exact rfw_of (.inr (.inl rfl)) (init_nonrow hb hd) (by simp) (.inl rfl)
  · exact rfw_of (.inr (.inr (.inl rfl))) (init_many hb hd) (by simp) (.inr (.inl ⟨_, rfl⟩))
  · exact rfw_of (.inr (.inr (.inr rfl))) (init_two hb hd okL_aa) (dat_N okA) (.inr (.inr (.inr ⟨_, rfl⟩)))
end PV

set_option maxHeartbeats 4000000
namespace PV
open PySem L2
def prP (x : P × P) : P := .tup [x.1, x.2]
section
variable {ls : List Lg} {N : List (List Nat)} {b d : Int} {ns : List Int} {o : List P} {X : List (P × P)} {s0 s1 s2 s3 s4 s5 s6 s7 s8 s10 s11 s12 s13 s15 : Sl}
theorem lcR (hX : ∀ x ∈ X, Rfw x) : lc__law_refused_2 [s0, s1, s2, s3, s4, s5, s6, s7, s8, .own (.lst (X.map prP)), s10, s11, s12, s13, .no, s15] = .ok (.own (.lst [])) [s0, s1, s2, s3, s4, s5, s6, s7, s8, .val (.lst (X.map prP)), s10, s11, s12, s13, .no, s15] := by
  have h1 : lc__law_refused_2 [s0, s1, s2, s3, s4, s5, s6, s7, s8, .own (.lst (X.map prP)), s10, s11, s12, s13, .no, s15] = lc__law_refused_2 [s0, s1, s2, s3, s4, s5, s6, s7, s8, .val (.lst (X.map prP)), s10, s11, s12, s13, .no, s15] := by
    unfold lc__law_refused_2
    exact lc_idem (ps := X.map prP) (by simp) (by simp)
  rw [h1]
  have h2 := lc_pure (fi := itF (takeF (varF 9))) (t := nameT 14) (tt := notF (tstF (callF (F_law_refused_row) (consF (valF (takeF (callF (F_law_raised) (consF (binF ixP (varF 14) (cF (.int 0))) (nilF))))) (consF (binF ixP (varF 14) (cF (.int 1))) (nilF)))))) (fe := takeF (varF 14)) (vs := [14]) (π := [s0, s1, s2, s3, s4, s5, s6, s7, s8, .val (.lst (X.map prP)), s10, s11, s12, s13, .no, s15]) (item := prP) (b := fun _ => false) (g := prP) X (by simp) (by simp [chk]) (fun x hx => ⟨[s0, s1, s2, s3, s4, s5, s6, s7, s8, .val (.lst (X.map prP)), s10, s11, s12, s13, .val (prP x), s15], by simp [wipeE], by
      have := hX x hx
      simp [prP, ixT, this.told, this.same], fun z => (by cases z), by simp [chk], by simp [wipeE]⟩) (by simp [restE, wipeE])
  have e0 : X.filter (fun _ => false) = [] := by simp
  rw [e0, List.map_nil] at h2
  exact h2
theorem pickl {ks : List P} {kp : P} {π : En} {i : Nat} (h : Row ns o) (hk : kp = .lst ks ∨ kp = .tup ks) (h0 : 0 < ks.length) (hl : ks.length ≤ 1000000) (hπ : π[i]? = some (.loan (.lst o))) :
    ∃ p o', p ∈ ks ∧ Row ns o' ∧ callR F_law_pick [.bor i, .val kp] π = .ok (.val p) (π.set i (.loan (.lst o'))) := by
  obtain ⟨p, o', hp, ho, e⟩ := pickF h hk h0 hl
  exact ⟨p, o', hp, ho, call_X1 hπ rfl e⟩
def nums : List P := [.int (-1), .int 1441, .bl true, .non]
theorem refused_ok (K : OkW b d ls) (hN : ∀ n ∈ N, okN n) (hs : ∀ x ∈ ls, x.1 ∈ N) (hl : N.length ≤ 100) (h : Row ns o) :
    ∃ o', Row ns o' ∧ F_law_refused [.loan (.lst o), .val (wk b d ls), .val (.tup [.int b, .int d, .tup (ls.map lgP)]), .val (.lst (N.map nP'))] = .ok (.val (.bl true)) [.loan (.lst o'), .val (wk b d ls), .val (.tup [.int b, .int d, .tup (ls.map lgP)]), .val (.lst (N.map nP'))] := by
  obtain ⟨n, ⟨hn, hnN⟩, e1⟩ := strange_ok hN hl
  have hnl : n ∉ ls.map Prod.fst := fun q => by
    obtain ⟨x, hx, rfl⟩ := List.mem_map.mp q
    exact hnN (hs x hx)
  obtain ⟨t5, n5, h1⟩ := ref1 (o := o) (b := b) (d := d) (t := .tup [.int b, .int d, .tup (ls.map lgP)]) (ns := .lst (N.map nP')) (s5 := .no) (s6 := .no) (s7 := .no) (s8 := .no) (s9 := .no) (s10 := .val (.int b)) (s11 := .val (.int d)) (s12 := .val (.tup (ls.map lgP))) K.ok hn hnl rfl
  obtain ⟨t6, n6, h2⟩ := ref2 (o := o) (w := wk b d ls) (t := .tup [.int b, .int d, .tup (ls.map lgP)]) (ns := .lst (N.map nP')) (n := nP' n) (s5 := t5) (s6 := .no) (s7 := .no) (s8 := .no) (s9 := .no) (s10 := .val (.int b)) (s11 := .val (.int d)) (s12 := .val (.tup (ls.map lgP))) rfl
  obtain ⟨q, o1, hq, ho1, h3⟩ := pickl (π := RW o (wk b d ls) (.tup [.int b, .int d, .tup (ls.map lgP)]) (.lst (N.map nP')) (nP' n) t5 t6 .no .no .no (.val (.int b)) (.val (.int d)) (.val (.tup (ls.map lgP)))) (i := 0) (ks := badL) (kp := .lst badL) h (.inl rfl) (by decide) (by decide) rfl
  obtain ⟨v, o2, hv, ho2, h4⟩ := pickl (π := RW o1 (wk b d ls) (.tup [.int b, .int d, .tup (ls.map lgP)]) (.lst (N.map nP')) (nP' n) t5 t6 (.val q) .no .no (.val (.int b)) (.val (.int d)) (.val (.tup (ls.map lgP)))) (i := 0) (ks := nums) (kp := .lst nums) ho1 (.inl rfl) (by decide) (by decide) rfl
  have hb : badN v := by
    simp only [nums, List.mem_cons, List.not_mem_nil, or_false] at hv
    exact hv
  have hX := chkW_ok (b := b) (d := d) (ls := ls) K.b0 K.d0 K.ok hq hb
  have h5 := lcR (s0 := .loan (.lst o2)) (s1 := .val (wk b d ls)) (s2 := .val (.tup [.int b, .int d, .tup (ls.map lgP)])) (s3 := .val (.lst (N.map nP'))) (s4 := .val (nP' n)) (s5 := t5) (s6 := t6) (s7 := .val q) (s8 := .val v) (s10 := .val (.int b)) (s11 := .val (.int d)) (s12 := .val (.tup (ls.map lgP))) (s13 := .no) (s15 := .no) hX
  have h6 := fun s9 : Sl => lc11 (o := o2) (w := wk b d ls) (t := .tup [.int b, .int d, .tup (ls.map lgP)]) (ns := .lst (N.map nP')) (n := nP' n) (s5 := t5) (s6 := t6) (s7 := .val q) (s8 := .val v) (s9 := s9) (s10 := .val (.int b)) (s11 := .val (.int d)) (s12 := .val (.tup (ls.map lgP)))
  have h7 := minute_ok (m := 1440) (by omega)
  have hm : mulP (.tup [.tup [nP' [97], .int 1, .int 1, .int 1, .int 1]]) (.int 2) = some (.val (.tup [.tup [nP' [97], .int 1, .int 1, .int 1, .int 1], .tup [nP' [97], .int 1, .int 1, .int 1, .int 1]])) := rfl
  have hll := K.le
  have hl2 : ls.length + 1 ≤ 1000000 := by omega
  refine ⟨o2, ho2, ?_⟩
  unfold F_law_refused B_law_refused
  simp only [RW, badL, nums, chkW, prP, kindW, lgP, lgI, aa, wk] at h1 h2 h3 h4 h5 h6 ⊢
  simp [cA, cE, nP', prP, lgI] at h1 h2 h3 h4 h5 h6 e1 h7 hm
  simp [e1, h1, h2, h3, h4, h5, h6, h7, cA, cE, hm, hl2]
end
end PV

set_option maxHeartbeats 4000000
namespace PV
open PySem L2
/-! ### a walk within its bounds, in plain words -/
def Wlk : Int → List Lg → List Sn → Prop
  | _, [], [] => True
  | x, l :: ls, s :: S => s.1 = l.1 ∧ (x + col1 l ≤ s.2 ∧ s.2 ≤ x + col2 l) ∧ Wlk s.2 ls S
  | _, [], _ :: _ => False
  | _, _ :: _, [] => False
theorem wk_names : ∀ {x : Int} {ls : List Lg} {S : List Sn}, Wlk x ls S → S.map Prod.fst = ls.map Prod.fst
  | _, [], [], _ => rfl
  | _, l :: ls, s :: S, h => by
    rw [List.map_cons, List.map_cons, h.1, wk_names h.2.2]
  | _, [], _ :: _, h => h.elim
  | _, _ :: _, [], h => h.elim
theorem wk_snoc : ∀ {x : Int} {ls : List Lg} {S : List Sn} {l : Lg} {s : Sn}, Wlk x ls S → s.1 = l.1 → ((S.getLast?.map Prod.snd).getD x + col1 l ≤ s.2 ∧ s.2 ≤ (S.getLast?.map Prod.snd).getD x + col2 l) → Wlk x (ls ++ [l]) (S ++ [s])
  | _, [], [], l, s, _, h1, h2 => ⟨h1, by simpa using h2, trivial⟩
  | x, k :: ls, t :: S, l, s, h, h1, h2 => by
    refine ⟨h.1, h.2.1, wk_snoc h.2.2 h1 ?_⟩
    cases S with
    | nil => simpa using h2
    | cons u S =>
      rw [List.getLast?_cons_cons] at h2
      have hw : (u :: S).getLast? = some ((u :: S).getLast (by simp)) := List.getLast?_eq_some_getLast (by simp)
      rw [hw] at h2 ⊢
      exact h2
  | _, [], _ :: _, _, _, h, _, _ => h.elim
  | _, _ :: _, [], _, _, h, _, _ => h.elim
theorem pl_mid {pre post : List Lg} {l : Lg} (hn : ((pre ++ l :: post).map Prod.fst).Nodup) : pl (pre ++ l :: post) l.1 = some pre.length := pl_at hn (by simp)
theorem cut_midL {pre mid post : List Lg} {l : Lg} : ((pre ++ mid ++ l :: post).take ((pre ++ mid).length + 1)).drop pre.length = mid ++ [l] := by
  rw [List.take_append, List.take_of_length_le (by omega)]
  rw [show (pre ++ mid).length + 1 - (pre ++ mid).length = 1 by omega]
  simp
theorem sumG_snoc {g : Lg → Int} {m : List Lg} {l : Lg} : sumG g (m ++ [l]) = sumG g m + g l := by simp [sumG]
theorem can_sub : ∀ (post pre mid : List Lg) (S S' : List Sn) (x y : Int), ((pre ++ mid ++ post).map Prod.fst).Nodup → Wlk y post S → (x + sumG col1 mid ≤ y ∧ y ≤ x + sumG col2 mid) → S'.Sublist S → canF (pre ++ mid ++ post) S' x x pre.length = true
  | [], pre, mid, S, S', x, y, hn, hw, hb, hs => by
    cases S with
    | nil => rw [List.sublist_nil] at hs; subst hs; rfl
    | cons s S => exact hw.elim
  | l :: post, pre, mid, S, S', x, y, hn, hw, hb, hs => by
    cases S with
    | nil => exact hw.elim
    | cons s S =>
      obtain ⟨h1, h2, h3⟩ := hw
      cases hs with
      | cons _ hs =>
        have e : pre ++ mid ++ l :: post = pre ++ (mid ++ [l]) ++ post := by simp
        rw [e] at hn ⊢
        exact can_sub post pre (mid ++ [l]) S S' x s.2 hn h3 (by rw [sumG_snoc, sumG_snoc]; omega) hs
      | cons_cons _ hs =>
        rename_i S''
        unfold canF
        rw [h1, pl_mid hn]
        simp only []
        rw [if_neg (by simp), cut_midL, if_pos (by rw [sumG_snoc, sumG_snoc]; omega)]
        have e : pre ++ mid ++ l :: post = (pre ++ mid ++ [l]) ++ [] ++ post := by simp
        have e2 : (pre ++ mid).length + 1 = (pre ++ mid ++ [l]).length := by simp; omega
        rw [e2]
        rw [e] at hn ⊢
        exact can_sub post (pre ++ mid ++ [l]) [] S S'' s.2 s.2 hn h3 (by simp [sumG]) hs
theorem can_walk {ls : List Lg} {S S' : List Sn} {b : Int} (hn : (ls.map Prod.fst).Nodup) (h : Wlk b ls S) (hs : S'.Sublist S) : canF ls S' b b 0 = true := by
  have := can_sub ls [] [] S S' b b (by simpa using hn) h (by simp [sumG]) hs
  simpa using this
theorem can_back {ls : List Lg} {s t : Sn} {S : List Sn} {b : Int} {p q : Nat} (h1 : pl ls s.1 = some p) (h2 : pl ls t.1 = some q) (h : q < p) : canF ls (s :: t :: S) b b 0 = false := by
  unfold canF
  rw [h1]
  simp only []
  rw [if_neg (by omega)]
  split
  · unfold canF
    rw [h2]
    simp only []
    rw [if_pos (by omega)]
  · rfl
/-- names that stand in the order of the legs -/
def Inc (ls : List Lg) : Nat → List Sn → Prop
  | _, [] => True
  | a, s :: S => ∃ p, pl ls s.1 = some p ∧ a ≤ p ∧ Inc ls (p + 1) S
theorem inc_mono {ls : List Lg} : ∀ {S : List Sn} {a c : Nat}, c ≤ a → Inc ls a S → Inc ls c S
  | [], _, _, _, _ => trivial
  | s :: S, a, c, h, ⟨p, h1, h2, h3⟩ => ⟨p, h1, by omega, h3⟩
theorem inc_of : ∀ (post pre : List Lg) (D : List Sn), ((pre ++ post).map Prod.fst).Nodup → (D.map Prod.fst).Sublist (post.map Prod.fst) → Inc (pre ++ post) pre.length D
  | [], pre, D, _, hs => by
    rw [List.map_nil, List.sublist_nil, List.map_eq_nil_iff] at hs
    subst hs; trivial
  | l :: post, pre, D, hn, hs => by
    cases D with
    | nil => trivial
    | cons s D =>
      have e : pre ++ l :: post = (pre ++ [l]) ++ post := by simp
      have e2 : (pre ++ [l]).length = pre.length + 1 := by simp
      rw [List.map_cons, List.map_cons] at hs
      rcases List.sublist_cons_iff.mp hs with hs | ⟨r, hr, hs⟩
      · have hp := hn
        rw [e] at hp ⊢
        have := inc_of post (pre ++ [l]) (s :: D) hp hs
        rw [e2] at this
        exact inc_mono (by omega) this
      · have hr' := List.cons.inj hr
        refine ⟨pre.length, by rw [hr'.1]; exact pl_mid hn, Nat.le_refl _, ?_⟩
        have hp := hn
        rw [e] at hp ⊢
        have := inc_of post (pre ++ [l]) D hp (by rw [hr'.2]; exact hs)
        rw [e2] at this
        exact this
theorem find_filter {S : List Sn} {q : Sn → Bool} : (((S.filter q).map fun s => nP' s.1) ++ [P.non])[0]? = some ((S.find? q).elim .non fun s => nP' s.1) := by
  rw [← List.head?_filter]
  cases S.filter q <;> rfl
end PV

set_option maxHeartbeats 4000000
namespace PV
open PySem L2
abbrev SE (s0 s1 s2 s3 s4 s5 s6 s7 s8 s9 s10 s11 s12 s13 s14 s15 s16 s17 s18 s19 s20 s21 s22 : Sl) : En := [s0, s1, s2, s3, s4, s5, s6, s7, s8, s9, s10, s11, s12, s13, s14, s15, s16, s17, s18, s19, s20, s21, s22]
section
variable {ls ms : List Lg} {N : List (List Nat)} {b d : Int} {ns : List Int} {o : List P} {s0 s1 s2 s3 s4 s5 s6 s7 s8 s9 s10 s11 s12 s13 s14 s15 s16 s17 s18 s19 s20 s21 s22 : Sl}
@[simp] theorem e_pm {o : List P → Option Rv} {f : M Rs} {fa : M (List Rs)} {π : En} : pmF o f fa π = (f π).bind fun r π1 => match rdP π1 r with
  | some (.lst _) => (fa π1).bind fun rs => opN o (r :: rs)
  | _ => .bad := rfl
theorem okL_sm {x : Lg} (h : okL x) : (1 ≤ col1 x ∧ col1 x ≤ col2 x ∧ col2 x ≤ 300) ∧ (1 ≤ col3 x ∧ col3 x ≤ col4 x ∧ col4 x ≤ 300) := h.2
theorem seen1 (h : Row ns o) (hok : ∀ x ∈ ls, okL x) (hl : ls.length ≤ 10) (h4 : nv s4) : ∃ (S : List Sn) (o' : List P) (t4 t13 : Sl), (Row ns o' ∧ Wlk b ls S ∧ nv t4 ∧ nv t13) ∧
    fr__law_seen_1 (SE (.loan (.lst o)) s1 s2 s3 s4 s5 s6 s7 s8 s9 s10 s11 (.val (.tup (ls.map lgP))) (.val (.int b)) (.own (.lst [])) s15 s16 s17 s18 s19 s20 s21 s22) = .ok .nx (SE (.loan (.lst o')) s1 s2 s3 t4 s5 s6 s7 s8 s9 s10 s11 (.val (.tup (ls.map lgP))) t13 (.own (.lst (S.map snP))) s15 s16 s17 s18 s19 s20 s21 s22) := by
  unfold fr__law_seen_1
  rw [e_for, show itF (takeF (varF 12)) (SE (.loan (.lst o)) s1 s2 s3 s4 s5 s6 s7 s8 s9 s10 s11 (.val (.tup (ls.map lgP))) (.val (.int b)) (.own (.lst [])) s15 s16 s17 s18 s19 s20 s21 s22) = .ok (ls.map lgP) (SE (.loan (.lst o)) s1 s2 s3 s4 s5 s6 s7 s8 s9 s10 s11 (.val (.tup (ls.map lgP))) (.val (.int b)) (.own (.lst [])) s15 s16 s17 s18 s19 s20 s21 s22) from by simp, e_bok]
  obtain ⟨π', k1, k2⟩ := loop_inv (t := nameT 4) (fb := (seqF (setF 13 (binF addP (binF addP (varF 13) (binF ixP (varF 4) (cF (.int 1)))) (callF (F_law_taken) (consF (varF 0) (consF (valF (takeF (binF addP (binF subP (binF ixP (varF 4) (cF (.int 2))) (binF ixP (varF 4) (cF (.int 1)))) (cF (.int 1))))) (nilF)))))) (dropF (mutF appP 14 (consF (tupF (consF (binF ixP (varF 4) (cF (.int 0))) (consF (valF (takeF (varF 13))) (nilF)))) (nilF)))))) lgP
    (fun dn π => ∃ (S : List Sn) (o' : List P) (t4 : Sl), (Row ns o' ∧ Wlk b dn S ∧ nv t4) ∧ π = (SE (.loan (.lst o')) s1 s2 s3 t4 s5 s6 s7 s8 s9 s10 s11 (.val (.tup (ls.map lgP))) (.val (.int ((S.getLast?.map Prod.snd).getD b))) (.own (.lst (S.map snP))) s15 s16 s17 s18 s19 s20 s21 s22))
    ls (fun dn a r π e ⟨S, o', t4, ⟨ho, hw, n4⟩, hπ⟩ => by
      subst hπ
      have ha : a ∈ ls := by rw [e]; simp
      have hlen := congrArg List.length e
      have hsl := congrArg List.length (wk_names hw)
      simp at hlen hsl
      have hc := (okL_sm (hok a ha)).1
      generalize hx : (S.getLast?.map Prod.snd).getD b = x
      obtain ⟨v, o2, hv, ho2, e2⟩ := drawl (π := (SE (.loan (.lst o')) s1 s2 s3 (.val (lgP a)) s5 s6 s7 s8 s9 s10 s11 (.val (.tup (ls.map lgP))) (.val (.int x)) (.own (.lst (S.map snP))) s15 s16 s17 s18 s19 s20 s21 s22)) (i := 0) (m := col2 a - col1 a + 1) ho (by omega) (by unfold Sm; omega) rfl
      refine ⟨(SE (.loan (.lst o')) s1 s2 s3 (.val (lgP a)) s5 s6 s7 s8 s9 s10 s11 (.val (.tup (ls.map lgP))) (.val (.int x)) (.own (.lst (S.map snP))) s15 s16 s17 s18 s19 s20 s21 s22), (SE (.loan (.lst o2)) s1 s2 s3 (.val (lgP a)) s5 s6 s7 s8 s9 s10 s11 (.val (.tup (ls.map lgP))) (.val (.int (x + col1 a + v))) (.own (.lst ((S ++ [(a.1, x + col1 a + v)]).map snP))) s15 s16 s17 s18 s19 s20 s21 s22), by simp [nv_lo n4], ?_, S ++ [(a.1, x + col1 a + v)], o2, .val (lgP a), ⟨ho2, wk_snoc hw rfl (by rw [hx]; omega), nv_v⟩, by simp⟩
      have hs : S.length ≤ 1000000 := by omega
      simp at e2
      simp [ix_0, ix_1, ix_2, e2, snP, hs]) (SE (.loan (.lst o)) s1 s2 s3 s4 s5 s6 s7 s8 s9 s10 s11 (.val (.tup (ls.map lgP))) (.val (.int b)) (.own (.lst [])) s15 s16 s17 s18 s19 s20 s21 s22) ⟨[], o, s4, ⟨h, trivial, h4⟩, by simp⟩
  obtain ⟨S, o', t4, ⟨h1, h2, h3⟩, rfl⟩ := k2
  exact ⟨S, o', t4, _, ⟨h1, h2, h3, nv_v⟩, k1⟩
theorem seenD {S : List Sn} (h : Row ns o) (h19 : s19 = .no) (h20 : s20 = .no) : ∃ (D : List Sn) (o' : List P), (Row ns o' ∧ D.map Prod.fst = S.map Prod.fst) ∧
    lc__law_seen_1 (SE (.loan (.lst o)) s1 s2 s3 s4 (.val (.lst (S.map snP))) s6 s7 s8 s9 s10 s11 s12 s13 s14 s15 s16 s17 s18 s19 s20 s21 s22) = .ok (.own (.lst (D.map snP))) (SE (.loan (.lst o')) s1 s2 s3 s4 (.val (.lst (S.map snP))) s6 s7 s8 s9 s10 s11 s12 s13 s14 s15 s16 s17 s18 s19 s20 s21 s22) := by
  subst h19 h20
  obtain ⟨acc, π', k1, o', D, k2, k3, k4, k5⟩ := lcSm (fi := (itF (takeF (varF 5)))) (t := (tupT (consT (nameT 19) (consT (nameT 20) (nilT))))) (fe := (takeF (tupF (consF (valF (takeF (varF 19))) (consF (valF (takeF (binF addP (varF 20) (callF (F_law_pick) (consF (varF 0) (consF (valF (takeF (lstF (consF (cF (.int 0)) (consF (cF (.int 0)) (consF (valF (takeF (binF subP (callF (F_law_taken) (consF (varF 0) (consF (cF (.int 30)) (nilF)))) (cF (.int 15))))) (nilF))))))) (nilF))))))) (nilF)))))) (vs := [19, 20]) (π := (SE (.loan (.lst o)) s1 s2 s3 s4 (.val (.lst (S.map snP))) s6 s7 s8 s9 s10 s11 s12 s13 s14 s15 s16 s17 s18 .no .no s21 s22)) (π0 := (SE (.loan (.lst o)) s1 s2 s3 s4 (.val (.lst (S.map snP))) s6 s7 s8 s9 s10 s11 s12 s13 s14 s15 s16 s17 s18 .no .no s21 s22)) (item := snP)
    (fun dn acc π => ∃ (o' : List P) (D : List Sn), Row ns o' ∧ D.map Prod.fst = dn.map Prod.fst ∧ acc = D.map snP ∧ π = (SE (.loan (.lst o')) s1 s2 s3 s4 (.val (.lst (S.map snP))) s6 s7 s8 s9 s10 s11 s12 s13 s14 s15 s16 s17 s18 .no .no s21 s22)) S (by simp) (by simp [chk])
    (fun dn a r acc π e ⟨o', D, ho, hD, hacc, hπ⟩ => by
      subst hπ hacc
      obtain ⟨v, o2, hv, ho2, e2⟩ := drawl (π := (SE (.loan (.lst o')) s1 s2 s3 s4 (.val (.lst (S.map snP))) s6 s7 s8 s9 s10 s11 s12 s13 s14 s15 s16 s17 s18 (.val (nP' a.1)) (.val (.int a.2)) s21 s22)) (i := 0) (m := 30) ho (by omega) (by unfold Sm; omega) rfl
      obtain ⟨p, o3, hp, ho3, e3⟩ := pickl (π := (SE (.loan (.lst o2)) s1 s2 s3 s4 (.val (.lst (S.map snP))) s6 s7 s8 s9 s10 s11 s12 s13 s14 s15 s16 s17 s18 (.val (nP' a.1)) (.val (.int a.2)) s21 s22)) (i := 0) (ks := [.int 0, .int 0, .int (v - 15)]) (kp := .lst [.int 0, .int 0, .int (v - 15)]) ho2 (.inl rfl) (by simp) (by simp) rfl
      obtain ⟨z, rfl⟩ : ∃ z, p = .int z := by
        simp only [List.mem_cons, List.not_mem_nil, or_false] at hp
        rcases hp with rfl | rfl | rfl <;> exact ⟨_, rfl⟩
      refine ⟨(SE (.loan (.lst o')) s1 s2 s3 s4 (.val (.lst (S.map snP))) s6 s7 s8 s9 s10 s11 s12 s13 s14 s15 s16 s17 s18 (.val (nP' a.1)) (.val (.int a.2)) s21 s22), snP (a.1, a.2 + z), (SE (.loan (.lst o3)) s1 s2 s3 s4 (.val (.lst (S.map snP))) s6 s7 s8 s9 s10 s11 s12 s13 s14 s15 s16 s17 s18 (.val (nP' a.1)) (.val (.int a.2)) s21 s22), by simp [snP], ?_, by simp [chk], o3, D ++ [(a.1, a.2 + z)], ho3, by simp [hD], by simp, by simp [wipeE]⟩
      simp at e2 e3
      simp [e2, e3, snP]) ⟨o, [], h, rfl, rfl, by simp [wipeE]⟩
  subst k4 k5
  refine ⟨D, o', ⟨k2, k3⟩, ?_⟩
  unfold lc__law_seen_1
  refine Eq.trans k1 ?_
  simp [restE]
theorem idx_ok {n : List Nat} {k : Nat} (h : ∀ x ∈ ls, okL x) (hn : okN n) (hk : pl ls n = some k) : indexP [.lst ((ls.map Prod.fst).map nP'), nP' n] = some (.val (.int k)) := by
  have hN : ∀ l ∈ ls.map Prod.fst, okN l := fun l hl => by
    obtain ⟨x, hx, rfl⟩ := List.mem_map.mp hl
    exact (h x hx).1
  show (if dat 60 (.lst ((ls.map Prod.fst).map nP')) = true ∧ dat 60 (nP' n) = true then _ else _) = _
  rw [if_pos ⟨by rw [dat60l]; exact dat_Ns hN, dat_N hn⟩, find_N]
  unfold pl at hk
  rw [hk]; rfl
theorem colS (a p : Nat) (hap : a ≤ p) (h4 : nv s4) : lc__law_seen_2 (SE s0 s1 s2 s3 s4 s5 s6 s7 s8 s9 s10 s11 (.val (.tup (ls.map lgP))) s13 s14 s15 (.val (.int ((a : Int) - 1))) s17 s18 s19 s20 (.val (.int (p : Int))) s22) = .ok (.own (.lst (((ls.take (p + 1)).drop a).map fun x => P.int (col1 x)))) (SE s0 s1 s2 s3 s4 s5 s6 s7 s8 s9 s10 s11 (.val (.tup (ls.map lgP))) s13 s14 s15 (.val (.int ((a : Int) - 1))) s17 s18 s19 s20 (.val (.int (p : Int))) s22)
    ∧ lc__law_seen_3 (SE s0 s1 s2 s3 s4 s5 s6 s7 s8 s9 s10 s11 (.val (.tup (ls.map lgP))) s13 s14 s15 (.val (.int ((a : Int) - 1))) s17 s18 s19 s20 (.val (.int (p : Int))) s22) = .ok (.own (.lst (((ls.take (p + 1)).drop a).map fun x => P.int (col2 x)))) (SE s0 s1 s2 s3 s4 s5 s6 s7 s8 s9 s10 s11 (.val (.tup (ls.map lgP))) s13 s14 s15 (.val (.int ((a : Int) - 1))) s17 s18 s19 s20 (.val (.int (p : Int))) s22) := by
  have hc : cutP (ls.map lgP) (some ((a : Int) - 1 + 1)) (some ((p : Int) + 1)) = ((ls.take (p + 1)).drop a).map lgP := by
    rw [show (a : Int) - 1 + 1 = a by omega, cut_mid (by omega) (by omega), show ((p : Int) + 1).toNat = p + 1 by omega, Int.toNat_natCast, List.map_drop, List.map_take]
  simp only [Int.sub_add_cancel] at hc
  generalize (ls.take (p + 1)).drop a = ms at hc ⊢
  unfold lc__law_seen_2 lc__law_seen_3
  constructor
  · refine lc_map (item := lgP) ms (by simp [hc]) (by rcases n4 : h4 with rfl | ⟨q, rfl⟩ <;> simp [chk]) (fun x hx => ⟨(SE s0 s1 s2 s3 (.val (lgP x)) s5 s6 s7 s8 s9 s10 s11 (.val (.tup (ls.map lgP))) s13 s14 s15 (.val (.int ((a : Int) - 1))) s17 s18 s19 s20 (.val (.int (p : Int))) s22), by simp [wipeE], by simp [ix_1], by simp [chk], by simp [wipeE]⟩) (by rcases h4 with rfl | ⟨q, rfl⟩ <;> simp [restE, wipeE])
  · refine lc_map (item := lgP) ms (by simp [hc]) (by rcases n4 : h4 with rfl | ⟨q, rfl⟩ <;> simp [chk]) (fun x hx => ⟨(SE s0 s1 s2 s3 (.val (lgP x)) s5 s6 s7 s8 s9 s10 s11 (.val (.tup (ls.map lgP))) s13 s14 s15 (.val (.int ((a : Int) - 1))) s17 s18 s19 s20 (.val (.int (p : Int))) s22), by simp [wipeE], by simp [ix_2], by simp [chk], by simp [wipeE]⟩) (by rcases h4 with rfl | ⟨q, rfl⟩ <;> simp [restE, wipeE])
theorem seen2 (hok : ∀ x ∈ ls, okL x) (h4 : nv s4) : ∀ (D : List Sn) (a : Nat) (lo hi : Int) (f : Bool) (s19 s20 s21 : Sl), (∀ s ∈ D, okN s.1) → Inc ls a D → (nv s19 ∧ nv s20 ∧ nv s21) →
    ∃ t16 t17 t18 t19 t20 t21, (nv t19 ∧ nv t20 ∧ nv t21 ∧ nv t16 ∧ nv t17 ∧ nv t18) ∧ loopF (tupT (consT (nameT 19) (consT (nameT 20) (nilT)))) (seqF (setF 21 (pmF indexP (varF 3) (consF (varF 19) (nilF)))) (seqF (parF 17 18 (binF addP (varF 17) (calF sumP (consF (lc__law_seen_2) (nilF)))) (binF addP (varF 18) (calF sumP (consF (lc__law_seen_3) (nilF))))) (seqF (parF 15 16 (andVF (varF 15) (chF leP leP (varF 17) (varF 20) (varF 18))) (valF (takeF (varF 21)))) (parF 17 18 (valF (takeF (varF 20))) (valF (takeF (varF 20))))))) (D.map snP) (SE s0 s1 s2 (.val (.lst ((ls.map Prod.fst).map nP'))) s4 s5 s6 s7 s8 s9 s10 s11 (.val (.tup (ls.map lgP))) s13 s14 (.val (.bl f)) (.val (.int ((a : Int) - 1))) (.val (.int lo)) (.val (.int hi)) s19 s20 s21 s22)
      = .ok .nx (SE s0 s1 s2 (.val (.lst ((ls.map Prod.fst).map nP'))) s4 s5 s6 s7 s8 s9 s10 s11 (.val (.tup (ls.map lgP))) s13 s14 (.val (.bl (f && canF ls D lo hi a))) t16 t17 t18 t19 t20 t21 s22)
  | [], a, lo, hi, f, s19, s20, s21, _, _, hs => ⟨.val (.int ((a : Int) - 1)), .val (.int lo), .val (.int hi), s19, s20, s21, ⟨hs.1, hs.2.1, hs.2.2, nv_v, nv_v, nv_v⟩, by simp [loopF, canF]⟩
  | s :: D, a, lo, hi, f, s19, s20, s21, hk, ⟨p, hp, hap, hi2⟩, hs => by
    have e1 := idx_ok hok (hk s List.mem_cons_self) hp
    have e2 := colS (ls := ls) (s4 := s4) (s0 := s0) (s1 := s1) (s2 := s2) (s3 := .val (.lst ((ls.map Prod.fst).map nP'))) (s5 := s5) (s6 := s6) (s7 := s7) (s8 := s8) (s9 := s9) (s10 := s10) (s11 := s11) (s13 := s13) (s14 := s14) (s15 := .val (.bl f)) (s17 := .val (.int lo)) (s18 := .val (.int hi)) (s19 := .val (nP' s.1)) (s20 := .val (.int s.2)) (s22 := s22) a p hap h4
    rw [List.map_cons]
    unfold loopF canF
    rw [hp]
    have q' : ¬ p < a := by omega
    simp only [if_neg q']
    have ht : (tupT (consT (nameT 19) (consT (nameT 20) (nilT)))) (snP s) (SE s0 s1 s2 (.val (.lst ((ls.map Prod.fst).map nP'))) s4 s5 s6 s7 s8 s9 s10 s11 (.val (.tup (ls.map lgP))) s13 s14 (.val (.bl f)) (.val (.int ((a : Int) - 1))) (.val (.int lo)) (.val (.int hi)) s19 s20 s21 s22) = some (SE s0 s1 s2 (.val (.lst ((ls.map Prod.fst).map nP'))) s4 s5 s6 s7 s8 s9 s10 s11 (.val (.tup (ls.map lgP))) s13 s14 (.val (.bl f)) (.val (.int ((a : Int) - 1))) (.val (.int lo)) (.val (.int hi)) (.val (nP' s.1)) (.val (.int s.2)) s21 s22) := by simp [snP, nv_lo hs.1, nv_lo hs.2.1]
    rw [ht]
    generalize hms : (ls.take (p + 1)).drop a = ms at e2 ⊢
    have hb : (seqF (setF 21 (pmF indexP (varF 3) (consF (varF 19) (nilF)))) (seqF (parF 17 18 (binF addP (varF 17) (calF sumP (consF (lc__law_seen_2) (nilF)))) (binF addP (varF 18) (calF sumP (consF (lc__law_seen_3) (nilF))))) (seqF (parF 15 16 (andVF (varF 15) (chF leP leP (varF 17) (varF 20) (varF 18))) (valF (takeF (varF 21)))) (parF 17 18 (valF (takeF (varF 20))) (valF (takeF (varF 20))))))) (SE s0 s1 s2 (.val (.lst ((ls.map Prod.fst).map nP'))) s4 s5 s6 s7 s8 s9 s10 s11 (.val (.tup (ls.map lgP))) s13 s14 (.val (.bl f)) (.val (.int ((a : Int) - 1))) (.val (.int lo)) (.val (.int hi)) (.val (nP' s.1)) (.val (.int s.2)) s21 s22) = .ok .nx (SE s0 s1 s2 (.val (.lst ((ls.map Prod.fst).map nP'))) s4 s5 s6 s7 s8 s9 s10 s11 (.val (.tup (ls.map lgP))) s13 s14 (.val (.bl (f && decide (lo + sumG col1 ms ≤ s.2 ∧ s.2 ≤ hi + sumG col2 ms)))) (.val (.int (((p + 1 : Nat) : Int) - 1))) (.val (.int s.2)) (.val (.int s.2)) (.val (nP' s.1)) (.val (.int s.2)) (.val (.int p)) s22) := by
      obtain ⟨c1, c2⟩ := e2
      have hm : ∀ z : Int, z + sumG col1 ms = z + (ms.map col1).sum := fun z => rfl
      have hm2 : ∀ z : Int, z + sumG col2 ms = z + (ms.map col2).sum := fun z => rfl
      simp only [List.map_map] at e1 c1 c2 ⊢
      cases f with
      | false =>
        simp [e1, nv_lo hs.2.2, c1, c2, sumP_m]
      | true =>
        by_cases z1 : lo + (ms.map col1).sum ≤ s.2
        · simp [e1, nv_lo hs.2.2, c1, c2, sumP_m, z1, hm, hm2]
        · simp [e1, nv_lo hs.2.2, c1, c2, sumP_m, z1, hm, hm2]
    simp only [hb]
    obtain ⟨t16, t17, t18, t19, t20, t21, hn, e5⟩ := seen2 hok h4 D (p + 1) s.2 s.2 (f && decide (lo + sumG col1 ms ≤ s.2 ∧ s.2 ≤ hi + sumG col2 ms)) (.val (nP' s.1)) (.val (.int s.2)) (.val (.int p)) (fun t ht => hk t (List.mem_cons_of_mem _ ht)) hi2 ⟨nv_v, nv_v, nv_v⟩
    refine ⟨t16, t17, t18, t19, t20, t21, hn, ?_⟩
    refine Eq.trans e5 ?_
    by_cases z : lo + sumG col1 ms ≤ s.2 ∧ s.2 ≤ hi + sumG col2 ms
    · simp [z]
    · simp [z]
end
end PV

set_option maxHeartbeats 4000000
namespace PV
open PySem L2
section
variable {ls ms : List Lg} {N : List (List Nat)} {b d t : Int} {ns : List Int} {o : List P} {s0 s1 s2 s3 s4 s5 s6 s7 s8 s9 s10 s11 s12 s13 s14 s15 s16 s17 s18 s19 s20 s21 s22 : Sl}
theorem seenL {D : List Sn} (hok : ∀ x ∈ ls, okL x) (hD : ∀ s ∈ D, okN s.1 ∧ ∃ k, pl ls s.1 = some k) (h19 : nv s19) (h20 : nv s20) :
    lc__law_seen_4 (SE s0 (.val (wk b d ls)) s2 s3 s4 s5 (.val (.lst (D.map snP))) s7 s8 s9 s10 s11 s12 s13 s14 s15 s16 s17 s18 s19 s20 s21 s22) = .ok (.own (.lst ((D.filter fun s => decide (turnI ls d s.1 ≤ s.2)).map fun s => nP' s.1))) (SE s0 (.val (wk b d ls)) s2 s3 s4 s5 (.val (.lst (D.map snP))) s7 s8 s9 s10 s11 s12 s13 s14 s15 s16 s17 s18 s19 s20 s21 s22) := by
  unfold lc__law_seen_4
  refine lc_pure (item := snP) D (by simp) (by rcases h19 with rfl | ⟨_, rfl⟩ <;> rcases h20 with rfl | ⟨_, rfl⟩ <;> simp [chk]) (fun s hs => ⟨(SE s0 (.val (wk b d ls)) s2 s3 s4 s5 (.val (.lst (D.map snP))) s7 s8 s9 s10 s11 s12 s13 s14 s15 s16 s17 s18 (.val (nP' s.1)) (.val (.int s.2)) s21 s22), by simp [wipeE, snP], ?_, fun _ => by simp, by simp [chk], by simp [wipeE]⟩) (by rcases h19 with rfl | ⟨_, rfl⟩ <;> rcases h20 with rfl | ⟨_, rfl⟩ <;> simp [restE, wipeE])
  obtain ⟨hn, k, hk⟩ := hD s hs
  have ht := turn_ok (b := b) (d := d) hok hn hk
  have hi : turnI ls d s.1 = d - sm col4 ls k := by unfold turnI; rw [hk]
  rw [hi]
  simp only [wk] at ht ⊢
  simp [ht]
theorem seen5 {x : Lg} (h : okL x) (ht : 0 ≤ t ∧ t ≤ 10) : lc__law_seen_5 (SE s0 s1 s2 s3 (.val (lgP x)) s5 s6 s7 (.val (.int t)) s9 s10 s11 s12 s13 s14 s15 s16 s17 s18 s19 s20 s21 .no) = .ok (.own (.lst ((prt x).map fun p => P.int (slw1 t p)))) (SE s0 s1 s2 s3 (.val (lgP x)) s5 s6 s7 (.val (.int t)) s9 s10 s11 s12 s13 s14 s15 s16 s17 s18 s19 s20 s21 .no) := by
  unfold lc__law_seen_5
  have hc : cutP (lgI x) (some 1) none = (prt x).map P.int := by rw [cut_from (by omega)]; rfl
  refine lc_map (item := P.int) (prt x) (by simp [lgP, hc]) (by simp [chk]) (fun p hp => ⟨(SE s0 s1 s2 s3 (.val (lgP x)) s5 s6 s7 (.val (.int t)) s9 s10 s11 s12 s13 s14 s15 s16 s17 s18 s19 s20 s21 (.val (.int p))), by simp [wipeE], ?_, by simp [chk], by simp [wipeE]⟩) (by simp [restE, wipeE])
  have hb := prt_sm h p hp
  have hm : mulP (.int p) (.int t) = some (.val (.int (p * t))) := mulP_sm (by unfold Sm; omega) (by unfold Sm; omega)
  have hd : ∀ i : Int, fdivP (.int i) (.int 10) = some (.val (.int (i / 10))) := fun i => fdivP_sm (by unfold Sm; omega) (by omega)
  simp [hm, hd, slw1_eq]
theorem seen6 (hok : ∀ x ∈ ls, okL x) (ht : 0 ≤ t ∧ t ≤ 10) (h4 : nv s4) : lc__law_seen_6 (SE s0 s1 s2 s3 s4 s5 s6 s7 (.val (.int t)) s9 s10 s11 (.val (.tup (ls.map lgP))) s13 s14 s15 s16 s17 s18 s19 s20 s21 .no) = .ok (.own (.lst ((ls.map (slw t)).map lgP))) (SE s0 s1 s2 s3 s4 s5 s6 s7 (.val (.int t)) s9 s10 s11 (.val (.tup (ls.map lgP))) s13 s14 s15 s16 s17 s18 s19 s20 s21 .no) := by
  unfold lc__law_seen_6
  rw [List.map_map]
  refine lc_map (item := lgP) (g := lgP ∘ slw t) ls (by simp) (by rcases h4 with rfl | ⟨_, rfl⟩ <;> simp [chk]) (fun x hx => ⟨(SE s0 s1 s2 s3 (.val (lgP x)) s5 s6 s7 (.val (.int t)) s9 s10 s11 (.val (.tup (ls.map lgP))) s13 s14 s15 s16 s17 s18 s19 s20 s21 .no), by simp [wipeE], ?_, by simp [chk], by simp [wipeE]⟩) (by rcases h4 with rfl | ⟨_, rfl⟩ <;> simp [restE, wipeE])
  have e := seen5 (s0 := s0) (s1 := s1) (s2 := s2) (s3 := s3) (s5 := s5) (s6 := s6) (s7 := s7) (s9 := s9) (s10 := s10) (s11 := s11) (s12 := .val (.tup (ls.map lgP))) (s13 := s13) (s14 := s14) (s15 := s15) (s16 := s16) (s17 := s17) (s18 := s18) (s19 := s19) (s20 := s20) (s21 := s21) (hok x hx) ht
  have hc : cutP (lgI x) none (some 1) = [nP' x.1] := by rw [cut_to (by omega)]; rfl
  have hl3 : slP (lgP x) none (some 1) = some (.val (.tup [nP' x.1])) := by unfold lgP; rw [slP_t, hc]
  simp [e, hl3, prt]
  rfl
theorem cmp_wk {b' d' : Int} {ls' : List P} : cmpOk 6 (.obj 6 [.int b', .int d', .tup ls']) = true := rfl
theorem seen_ok (K : OkW b d ls) (h60 : ∀ x ∈ ls, ∀ p ∈ prt x, p ≤ 60) (h : Row ns o) :
    ∃ o', Row ns o' ∧ F_law_seen [.loan (.lst o), .val (wk b d ls), .val (.tup [.int b, .int d, .tup (ls.map lgP)]), .val (.lst ((ls.map Prod.fst).map nP'))] = .ok (.val (.bl true)) [.loan (.lst o'), .val (wk b d ls), .val (.tup [.int b, .int d, .tup (ls.map lgP)]), .val (.lst ((ls.map Prod.fst).map nP'))] := by
  obtain ⟨S, o1, t4, t13, ⟨ho1, hw, n4, n13⟩, k1⟩ := seen1 (b := b) (s1 := .val (wk b d ls)) (s2 := .val (.tup [.int b, .int d, .tup (ls.map lgP)])) (s3 := .val (.lst ((ls.map Prod.fst).map nP'))) (s4 := .no) (s5 := .no) (s6 := .no) (s7 := .no) (s8 := .no) (s9 := .no) (s10 := .val (.int b)) (s11 := .val (.int d)) (s15 := .no) (s16 := .no) (s17 := .no) (s18 := .no) (s19 := .no) (s20 := .no) (s21 := .no) (s22 := .no) h K.ok K.le nv_no
  obtain ⟨S', o2, hsub, ho2, f2⟩ := some_ok (S := S) ho1
  have k2 := call_X1 (π := (SE (.loan (.lst o1)) (.val (wk b d ls)) (.val (.tup [.int b, .int d, .tup (ls.map lgP)])) (.val (.lst ((ls.map Prod.fst).map nP'))) t4 .no .no .no .no .no (.val (.int b)) (.val (.int d)) (.val (.tup (ls.map lgP))) t13 (.val (.lst (S.map snP))) .no .no .no .no .no .no .no .no)) (i := 0) rfl rfl f2
  have hnm := wk_names hw
  have hS : ∀ s ∈ S, okN s.1 ∧ ∃ k, pl ls s.1 = some k := fun s hs => by
    have hm : s.1 ∈ ls.map Prod.fst := by rw [← hnm]; exact List.mem_map_of_mem hs
    obtain ⟨x, hx, e⟩ := List.mem_map.mp hm
    obtain ⟨k, hk, ek⟩ := List.mem_iff_getElem.mp hx
    refine ⟨by rw [← e]; exact (K.ok x hx).1, k, ?_⟩
    rw [← e]
    exact pl_at K.nd (by rw [List.getElem?_eq_getElem hk, ek])
  have k3 := can_ok (b := b) (d := d) (S := S') K.ok fun s hs => hS s (hsub.subset hs)
  rw [can_walk K.nd hw hsub] at k3
  obtain ⟨D, o3, ⟨ho3, hDn⟩, k4⟩ := seenD (S := S') (s1 := .val (wk b d ls)) (s2 := .val (.tup [.int b, .int d, .tup (ls.map lgP)])) (s3 := .val (.lst ((ls.map Prod.fst).map nP'))) (s4 := t4) (s6 := .no) (s7 := .no) (s8 := .no) (s9 := .no) (s10 := .val (.int b)) (s11 := .val (.int d)) (s12 := .val (.tup (ls.map lgP))) (s13 := t13) (s14 := .val (.lst (S.map snP))) (s15 := .no) (s16 := .no) (s17 := .no) (s18 := .no) (s19 := .no) (s20 := .no) (s21 := .no) (s22 := .no) ho2 rfl rfl
  have hDs : (D.map Prod.fst).Sublist (ls.map Prod.fst) := by rw [hDn, ← hnm]; exact hsub.map _
  have hD : ∀ s ∈ D, okN s.1 ∧ ∃ k, pl ls s.1 = some k := fun s hs => by
    have hm : s.1 ∈ ls.map Prod.fst := hDs.subset (List.mem_map_of_mem hs)
    obtain ⟨x, hx, e⟩ := List.mem_map.mp hm
    obtain ⟨k, hk, ek⟩ := List.mem_iff_getElem.mp hx
    refine ⟨by rw [← e]; exact (K.ok x hx).1, k, ?_⟩
    rw [← e]
    exact pl_at K.nd (by rw [List.getElem?_eq_getElem hk, ek])
  have hinc : Inc ls 0 D := by
    have := inc_of ls [] D (by simpa using K.nd) hDs
    simpa using this
  obtain ⟨t16, t17, t18, t19, t20, t21, ⟨n19, n20, n21, n16, n17, n18⟩, k5⟩ := seen2 (ls := ls) (s0 := .loan (.lst o3)) (s1 := .val (wk b d ls)) (s2 := .val (.tup [.int b, .int d, .tup (ls.map lgP)])) (s4 := t4) (s5 := .val (.lst (S'.map snP))) (s6 := .val (.lst (D.map snP))) (s7 := .no) (s8 := .no) (s9 := .no) (s10 := .val (.int b)) (s11 := .val (.int d)) (s13 := t13) (s14 := .val (.lst (S.map snP))) (s22 := .no) K.ok n4 D 0 b b true .no .no .no (fun s hs => (hD s hs).1) hinc ⟨nv_no, nv_no, nv_no⟩
  have k6 := seenL (b := b) (d := d) (D := D) (s0 := .loan (.lst o3)) (s2 := .val (.tup [.int b, .int d, .tup (ls.map lgP)])) (s3 := .val (.lst ((ls.map Prod.fst).map nP'))) (s4 := t4) (s5 := .val (.lst (S'.map snP))) (s7 := .no) (s8 := .no) (s9 := .no) (s10 := .val (.int b)) (s11 := .val (.int d)) (s12 := .val (.tup (ls.map lgP))) (s13 := t13) (s14 := .val (.lst (S.map snP))) (s15 := .val (.bl (canF ls D b b 0))) (s16 := t16) (s17 := t17) (s18 := t18) (s19 := t19) (s20 := t20) (s21 := t21) (s22 := .no) K.ok hD n19 n20
  have k7 := can_ok (b := b) (d := d) (S := D) K.ok hD
  have k8 := must_ok (b := b) (d := d) (S := D) K.ok hD
  have k9 := can_ok (b := b) (d := d) (S := S.reverse) K.ok fun s hs => hS s (by simpa using hs)
  have hrev : 1 < S.length → canF ls S.reverse b b 0 = false := fun hl => by
    have hll : S.length = ls.length := by have := congrArg List.length hnm; simpa using this
    obtain ⟨r, s, t, e⟩ : ∃ r s t, S = r ++ [s, t] := by
      have hne : S ≠ [] := by intro q; rw [q] at hl; simp at hl
      have hne2 : S.dropLast ≠ [] := by intro q; have := congrArg List.length q; simp at this; omega
      exact ⟨S.dropLast.dropLast, S.dropLast.getLast hne2, S.getLast hne, by rw [show ∀ (l : List Sn) (x y : Sn), l ++ [x, y] = (l ++ [x]) ++ [y] by simp, List.dropLast_concat_getLast, List.dropLast_concat_getLast]⟩
    have h1 : pl ls t.1 = some (r.length + 1) := by
      have hk : (ls.map Prod.fst)[r.length + 1]? = some t.1 := by rw [← hnm, e]; simp
      rw [List.getElem?_map, Option.map_eq_some_iff] at hk
      obtain ⟨x, hx, ex⟩ := hk
      rw [← ex]; exact pl_at K.nd hx
    have h2 : pl ls s.1 = some r.length := by
      have hk : (ls.map Prod.fst)[r.length]? = some s.1 := by rw [← hnm, e]; simp
      rw [List.getElem?_map, Option.map_eq_some_iff] at hk
      obtain ⟨x, hx, ex⟩ := hk
      rw [← ex]; exact pl_at K.nd hx
    rw [e, List.reverse_append]
    exact can_back h1 h2 (by omega)
  obtain ⟨tt, o4, hv, ho4, k10⟩ := drawl (π := (SE (.loan (.lst o3)) (.val (wk b d ls)) (.val (.tup [.int b, .int d, .tup (ls.map lgP)])) (.val (.lst ((ls.map Prod.fst).map nP'))) t4 (.val (.lst (S'.map snP))) (.val (.lst (D.map snP))) (.own (.lst ((D.filter fun s => decide (turnI ls d s.1 ≤ s.2)).map fun s => nP' s.1))) .no .no (.val (.int b)) (.val (.int d)) (.val (.tup (ls.map lgP))) t13 (.val (.lst (S.map snP))) (.val (.bl (canF ls D b b 0))) t16 t17 t18 t19 t20 t21 .no)) (i := 0) (m := 11) ho3 (by omega) (by unfold Sm; omega) rfl
  have ht : 0 ≤ tt ∧ tt ≤ 10 := by omega
  have k11 := seen6 (ls := ls) (t := tt) (s0 := .loan (.lst o4)) (s1 := .val (wk b d ls)) (s2 := .val (.tup [.int b, .int d, .tup (ls.map lgP)])) (s3 := .val (.lst ((ls.map Prod.fst).map nP'))) (s4 := t4) (s5 := .val (.lst (S'.map snP))) (s6 := .val (.lst (D.map snP))) (s7 := .own (.lst ((D.filter fun s => decide (turnI ls d s.1 ≤ s.2)).map fun s => nP' s.1))) (s9 := .no) (s10 := .val (.int b)) (s11 := .val (.int d)) (s13 := t13) (s14 := .val (.lst (S.map snP))) (s15 := .val (.bl (canF ls D b b 0))) (s16 := t16) (s17 := t17) (s18 := t18) (s19 := t19) (s20 := t20) (s21 := t21) K.ok ht n4
  have KS := okW_slow K h60 ht
  have k12 := slow_ok (b := b) (d := d) (t := tt) KS K.ok K.le ⟨ht.1, by omega⟩
  have k13 := fun π : En => mk_lstW (π := π) KS
  have k14 := eq_ok (b := b) (d := d) (b2 := b) (d2 := d) KS.ok KS.ok
  refine ⟨o4, ho4, ?_⟩
  have hfd := find_filter (S := D) (q := fun s => decide (turnI ls d s.1 ≤ s.2))
  have k8' : FWalk_must_turn [.val (wk b d ls), .val (.lst (D.map snP))] = .ok (.val ((D.find? fun s => decide (turnI ls d s.1 ≤ s.2)).elim .non fun s => nP' s.1)) [.val (wk b d ls), .val (.lst (D.map snP))] := by
    rw [k8]
    cases D.find? fun s => decide (turnI ls d s.1 ≤ s.2) <;> rfl
  clear k8
  generalize hM : ((D.find? fun s => decide (turnI ls d s.1 ≤ s.2)).elim .non fun s => nP' s.1) = M at k8' hfd
  have hMd : dat 60 M = true := by
    rw [← hM]
    cases e : D.find? fun s => decide (turnI ls d s.1 ≤ s.2) with
    | none => exact dat_non
    | some s => exact dat_N (hD s (List.mem_of_find?_eq_some e)).1
  have hne : neP M M = some (.val (.bl false)) := neP_rf hMd
  have hFl : (D.filter fun s => decide (turnI ls d s.1 ≤ s.2)).length ≤ 999999 := by
    have h1 := List.length_filter_le (fun s => decide (turnI ls d s.1 ≤ s.2)) D
    have h2 := hDs.length_le
    have h3 := K.le
    simp at h2
    omega
  generalize (D.filter fun s => decide (turnI ls d s.1 ≤ s.2)) = G at *
  have hix : ixP (.lst ((G.map fun s => nP' s.1) ++ [P.non])) (.int 0) = some (.val M) := by
    rw [ixL, show (0 : Int) = ((0 : Nat) : Int) from rfl, atI_nat, hfd]; rfl
  have hJ : (1 < S.length ∧ FWalk_can_be [.val (wk b d ls), .val (.lst (S.map snP).reverse)] = .ok (.val (.bl false)) [.val (wk b d ls), .val (.lst (S.map snP).reverse)]) ∨ ¬ 1 < S.length := by
    rw [List.map_reverse] at k9
    by_cases q : 1 < S.length
    · rw [hrev q] at k9
      exact .inl ⟨q, k9⟩
    · exact .inr q
  have k15 : d ≠ b → FWalk_later [.val (wk b d ls), .val (.int 1)] = .ok (.own (.obj 6 [.int (b + 1), .int d, .tup (ls.map lgP)])) [.val (wk b d ls), .val (.int 1)] := fun q => later_ok (m := 1) ⟨K.le, K.ok, K.nd, by have := K.b0; have := K.d0; omega, by have := K.d0; omega⟩
  have k16 : d ≠ b → ∀ π : En, mkR 6 FWalk_init [.val (.int (b + 1)), .val (.int d), .val (.tup (ls.map lgP))] π = .ok (.own (.obj 6 [.int (b + 1), .int d, .tup (ls.map lgP)])) π := fun q π => mk_tupW ⟨K.le, K.ok, K.nd, by have := K.b0; have := K.d0; omega, by have := K.d0; omega⟩
  have k17 := eq_ok (b := b + 1) (d := d) (b2 := b + 1) (d2 := d) K.ok K.ok
  generalize hSL : (ls.map (slw tt)).map lgP = SL at *
  generalize hKN : (ls.map Prod.fst).map nP' = KN at *
  rw [show (((0 : Nat) : Int) - 1) = -1 from rfl, Bool.true_and] at k5
  have t1 := @truth_ok true
  have t2 := @truth_ok (canF ls D b b 0)
  unfold F_law_seen B_law_seen fr__law_seen_2
  simp only [SE, wk] at *
  simp [hSL] at k10 k14 k17 k2
  rcases hJ with ⟨q, k9'⟩ | q
  · have q' : (1 : Int) < S.length := by omega
    by_cases z : d = b
    · subst z
      simp [-e_mkR, e_for, k1, k2, k3, t1, k4, k5, nv_lo n19, nv_lo n20, k6, k7, t2, k8', hne, hix, hFl, q', k9', k10, k11, k12, k13, k14, cmp_wk]
    · simp [-e_mkR, e_for, k1, k2, k3, t1, k4, k5, nv_lo n19, nv_lo n20, k6, k7, t2, k8', hne, hix, hFl, q', k9', k10, k11, k12, k13, k14, k15 z, k16 z, k17, z, cmp_wk]
  · have q' : ¬ (1 : Int) < S.length := by omega
    by_cases z : d = b
    · subst z
      simp [-e_mkR, e_for, k1, k2, k3, t1, k4, k5, nv_lo n19, nv_lo n20, k6, k7, t2, k8', hne, hix, hFl, q', k10, k11, k12, k13, k14, cmp_wk]
    · simp [-e_mkR, e_for, k1, k2, k3, t1, k4, k5, nv_lo n19, nv_lo n20, k6, k7, t2, k8', hne, hix, hFl, q', k10, k11, k12, k13, k14, k15 z, k16 z, k17, z, cmp_wk]
end
end PV

set_option maxHeartbeats 4000000
namespace PV
open PySem L2
abbrev LE (s0 s1 s2 s3 s4 s5 s6 s7 s8 s9 s10 s11 s12 s13 s14 s15 s16 s17 s18 s19 s20 s21 : Sl) : En := [s0, s1, s2, s3, s4, s5, s6, s7, s8, s9, s10, s11, s12, s13, s14, s15, s16, s17, s18, s19, s20, s21]
def okS (x : Lg) : Prop := okL x ∧ ∀ p ∈ prt x, p ≤ 60
section
variable {ls ms : List Lg} {N : List (List Nat)} {b d t : Int} {ns : List Int} {o : List P} {s0 s1 s2 s3 s4 s5 s6 s7 s8 s9 s10 s11 s12 s13 s14 s15 s16 s17 s18 s19 s20 s21 : Sl}
theorem law1 : Slaw1 (LE (.val (.scr ns)) .no .no .no .no .no .no .no .no .no .no .no .no .no .no .no .no .no .no .no .no .no) = .ok .nx (LE (.val (.scr ns)) (.own (.lst [.scr ns, .int 0, .int 41, .int 0])) .no .no .no .no .no .no .no .no .no .no .no .no .no .no .no .no .no .no .no .no) := by
  unfold Slaw1; simp
theorem row0 : Row ns [.scr ns, .int 0, .int 41, .int 0] := ⟨0, 41, 0, rfl, by omega, by omega, by omega⟩
theorem law2 (h : Row ns o) : ∃ (o' : List P) (N : List (List Nat)) (b : Int), (Row ns o' ∧ (N.length = 5 ∧ N.Nodup ∧ ∀ l ∈ N, okN l) ∧ 0 ≤ b ∧ b < 300) ∧
    Slaw2 (LE s0 (.own (.lst o)) s2 s3 s4 s5 .no .no .no s9 s10 s11 s12 s13 s14 s15 s16 s17 s18 s19 s20 s21) = .ok .nx (LE s0 (.own (.lst o')) s2 s3 s4 s5 (.val (.lst (N.map nP'))) (.own (.lst [])) (.val (.int b)) s9 s10 s11 s12 s13 s14 s15 s16 s17 s18 s19 s20 s21) := by
  obtain ⟨N, o1, hN, ho1, f1⟩ := names_ok (m := 5) h (by omega)
  have e1 := call_X1 (π := (LE s0 (.own (.lst o)) s2 s3 s4 s5 .no .no .no s9 s10 s11 s12 s13 s14 s15 s16 s17 s18 s19 s20 s21)) (i := 1) rfl rfl f1
  obtain ⟨b, o2, hb, ho2, e2⟩ := draw (π := (LE s0 (.own (.lst o1)) s2 s3 s4 s5 .no .no .no s9 s10 s11 s12 s13 s14 s15 s16 s17 s18 s19 s20 s21)) (i := 1) (m := 300) ho1 (by omega) (by unfold Sm; omega) rfl
  refine ⟨o2, N, b, ⟨ho2, hN, hb⟩, ?_⟩
  simp at e1 e2
  unfold Slaw2
  simp [e1, e2]
theorem law3 (h : Row ns o) (hN : ∀ l ∈ N, okN l) (h5 : N.length = 5) : ∃ (ls : List Lg) (o' : List P) (t2 t14 t16 : Sl), (Row ns o' ∧ (ls.length ≤ 5 ∧ (ls.map Prod.fst).Sublist N ∧ ∀ x ∈ ls, okS x) ∧ nv t2 ∧ nv t14 ∧ nv t16) ∧
    Slaw3 (LE s0 (.own (.lst o)) .no s3 s4 s5 (.val (.lst (N.map nP'))) (.own (.lst [])) s8 s9 s10 s11 s12 s13 .no s15 .no s17 s18 s19 s20 s21) = .ok .nx (LE s0 (.own (.lst o')) t2 s3 s4 s5 (.val (.lst (N.map nP'))) (.own (.lst (ls.map lgP))) s8 s9 s10 s11 s12 s13 t14 s15 t16 s17 s18 s19 s20 s21) := by
  obtain ⟨v, o1, hv, ho1, e1⟩ := draw (π := (LE s0 (.own (.lst o)) .no s3 s4 s5 (.val (.lst (N.map nP'))) (.own (.lst [])) s8 s9 s10 s11 s12 s13 .no s15 .no s17 s18 s19 s20 s21)) (i := 1) (m := 6) h (by omega) (by unfold Sm; omega) rfl
  have hsrc : (itF (takeF (slF (varF 6) (noP) (inP (callF (F_law_taken) (consF (varF 1) (consF (cF (.int 6)) (nilF)))))))) (LE s0 (.own (.lst o)) .no s3 s4 s5 (.val (.lst (N.map nP'))) (.own (.lst [])) s8 s9 s10 s11 s12 s13 .no s15 .no s17 s18 s19 s20 s21) = .ok ((N.take v.toNat).map nP') (LE s0 (.own (.lst o1)) .no s3 s4 s5 (.val (.lst (N.map nP'))) (.own (.lst [])) s8 s9 s10 s11 s12 s13 .no s15 .no s17 s18 s19 s20 s21) := by
    simp at e1
    simp [e1]
    exact cut_to hv.1
  unfold Slaw3 fr_law_1
  rw [e_for, hsrc, e_bok]
  have htk : (N.take v.toNat).length ≤ 5 := by rw [List.length_take]; omega
  have hts : (N.take v.toNat).Sublist N := List.take_sublist _ _
  generalize N.take v.toNat = M at htk hts ⊢
  obtain ⟨π', k1, k2⟩ := loop_inv (t := nameT 2) (fb := (seqF (parF 14 16 (binF addP (cF (.int 1)) (callF (F_law_taken) (consF (varF 1) (consF (cF (.int 40)) (nilF))))) (binF addP (cF (.int 1)) (callF (F_law_taken) (consF (varF 1) (consF (cF (.int 40)) (nilF)))))) (dropF (mutF appP 7 (consF (tupF (consF (valF (takeF (varF 2))) (consF (valF (takeF (varF 14))) (consF (valF (takeF (binF addP (varF 14) (callF (F_law_taken) (consF (varF 1) (consF (cF (.int 20)) (nilF))))))) (consF (valF (takeF (varF 16))) (consF (valF (takeF (binF addP (varF 16) (callF (F_law_taken) (consF (varF 1) (consF (cF (.int 20)) (nilF))))))) (nilF))))))) (nilF)))))) nP'
    (fun dn π => ∃ (ls : List Lg) (o' : List P) (t2 t14 t16 : Sl), (Row ns o' ∧ ls.map Prod.fst = dn ∧ (∀ x ∈ ls, okS x) ∧ nv t2 ∧ nv t14 ∧ nv t16) ∧ π = (LE s0 (.own (.lst o')) t2 s3 s4 s5 (.val (.lst (N.map nP'))) (.own (.lst (ls.map lgP))) s8 s9 s10 s11 s12 s13 t14 s15 t16 s17 s18 s19 s20 s21))
    M (fun dn a r π e ⟨ls, o', t2, t14, t16, ⟨ho, hl, hx, n2, n14, n16⟩, hπ⟩ => by
      subst hπ
      have ha : okN a := hN a (hts.subset (by rw [e]; simp))
      have hlen := congrArg List.length hl
      have hlen2 := congrArg List.length e
      simp at hlen hlen2
      obtain ⟨x, p1, hx1, q1, f1⟩ := draw (π := (LE s0 (.own (.lst o')) (.val (nP' a)) s3 s4 s5 (.val (.lst (N.map nP'))) (.own (.lst (ls.map lgP))) s8 s9 s10 s11 s12 s13 t14 s15 t16 s17 s18 s19 s20 s21)) (i := 1) (m := 40) ho (by omega) (by unfold Sm; omega) rfl
      obtain ⟨y, p2, hy1, q2, f2⟩ := draw (π := (LE s0 (.own (.lst p1)) (.val (nP' a)) s3 s4 s5 (.val (.lst (N.map nP'))) (.own (.lst (ls.map lgP))) s8 s9 s10 s11 s12 s13 t14 s15 t16 s17 s18 s19 s20 s21)) (i := 1) (m := 40) q1 (by omega) (by unfold Sm; omega) rfl
      obtain ⟨z, p3, hz1, q3, f3⟩ := draw (π := (LE s0 (.own (.lst p2)) (.val (nP' a)) s3 s4 s5 (.val (.lst (N.map nP'))) (.own (.lst (ls.map lgP))) s8 s9 s10 s11 s12 s13 (.val (.int (1 + x))) s15 (.val (.int (1 + y))) s17 s18 s19 s20 s21)) (i := 1) (m := 20) q2 (by omega) (by unfold Sm; omega) rfl
      obtain ⟨w, p4, hw1, q4, f4⟩ := draw (π := (LE s0 (.own (.lst p3)) (.val (nP' a)) s3 s4 s5 (.val (.lst (N.map nP'))) (.own (.lst (ls.map lgP))) s8 s9 s10 s11 s12 s13 (.val (.int (1 + x))) s15 (.val (.int (1 + y))) s17 s18 s19 s20 s21)) (i := 1) (m := 20) q3 (by omega) (by unfold Sm; omega) rfl
      refine ⟨(LE s0 (.own (.lst o')) (.val (nP' a)) s3 s4 s5 (.val (.lst (N.map nP'))) (.own (.lst (ls.map lgP))) s8 s9 s10 s11 s12 s13 t14 s15 t16 s17 s18 s19 s20 s21), (LE s0 (.own (.lst p4)) (.val (nP' a)) s3 s4 s5 (.val (.lst (N.map nP'))) (.own (.lst ((ls ++ [(a, 1 + x, 1 + x + z, 1 + y, 1 + y + w)]).map lgP))) s8 s9 s10 s11 s12 s13 (.val (.int (1 + x))) s15 (.val (.int (1 + y))) s17 s18 s19 s20 s21), by simp [nv_lo n2], ?_, ls ++ [(a, 1 + x, 1 + x + z, 1 + y, 1 + y + w)], p4, _, _, _, ⟨q4, by simp [hl], ?_, nv_v, nv_v, nv_v⟩, rfl⟩
      · have hls : ls.length ≤ 1000000 := by omega
        simp at f1 f2 f3 f4
        simp [f1, f2, f3, f4, nv_lo n14, nv_lo n16, hls, lgP, lgI]
      · intro u hu
        rw [List.mem_append, List.mem_singleton] at hu
        rcases hu with hu | rfl
        · exact hx u hu
        · refine ⟨⟨ha, by simp only []; omega, by simp only []; omega⟩, fun p hp => ?_⟩
          simp only [prt, List.mem_cons, List.not_mem_nil, or_false] at hp
          rcases hp with rfl | rfl | rfl | rfl <;> omega) (LE s0 (.own (.lst o1)) .no s3 s4 s5 (.val (.lst (N.map nP'))) (.own (.lst [])) s8 s9 s10 s11 s12 s13 .no s15 .no s17 s18 s19 s20 s21) ⟨[], o1, _, _, _, ⟨ho1, rfl, by simp, nv_no, nv_no, nv_no⟩, rfl⟩
  obtain ⟨ls, o', t2, t14, t16, ⟨a1, a2, a3, a4, a5, a6⟩, rfl⟩ := k2
  refine ⟨ls, o', t2, t14, t16, ⟨a1, ⟨?_, by rw [a2]; exact hts, a3⟩, a4, a5, a6⟩, k1⟩
  have := congrArg List.length a2
  simp at this
  omega
theorem law4 (h : Row ns o) : ∃ o' d, (Row ns o' ∧ b ≤ d ∧ d < b + 400) ∧ Slaw4 (LE s0 (.own (.lst o)) s2 s3 s4 s5 s6 (.own (.lst (ls.map lgP))) (.val (.int b)) .no s10 s11 s12 s13 s14 s15 s16 s17 s18 s19 s20 s21) = .ok .nx (LE s0 (.own (.lst o')) s2 s3 s4 s5 s6 (.val (.tup (ls.map lgP))) (.val (.int b)) (.val (.int d)) s10 s11 s12 s13 s14 s15 s16 s17 s18 s19 s20 s21) := by
  obtain ⟨v, o1, hv, ho1, e1⟩ := draw (π := (LE s0 (.own (.lst o)) s2 s3 s4 s5 s6 (.own (.lst (ls.map lgP))) (.val (.int b)) .no s10 s11 s12 s13 s14 s15 s16 s17 s18 s19 s20 s21)) (i := 1) (m := 400) h (by omega) (by unfold Sm; omega) rfl
  refine ⟨o1, b + v, ⟨ho1, by omega, by omega⟩, ?_⟩
  simp at e1
  unfold Slaw4
  simp [e1]
theorem lc1 (h : Row ns o) : ∃ (o' : List P) (l : List (Bool × Lg)), (Row ns o' ∧ l.map Prod.snd = ls) ∧
    lc_law_1 (LE s0 (.own (.lst o)) s2 s3 s4 s5 s6 (.val (.tup (ls.map lgP))) s8 s9 s10 s11 s12 .no s14 s15 s16 s17 s18 s19 s20 s21) = .ok (.own (.lst (l.map mixG))) (LE s0 (.own (.lst o')) s2 s3 s4 s5 s6 (.val (.tup (ls.map lgP))) s8 s9 s10 s11 s12 .no s14 s15 s16 s17 s18 s19 s20 s21) := by
  obtain ⟨acc, π', k1, o', l, k2, k3, k4, k5⟩ := lcSm (fi := (itF (takeF (varF 7)))) (t := (nameT 13)) (fe := (takeF (callF (F_law_mixed) (consF (varF 1) (consF (valF (takeF (varF 13))) (nilF)))))) (vs := [13]) (π := (LE s0 (.own (.lst o)) s2 s3 s4 s5 s6 (.val (.tup (ls.map lgP))) s8 s9 s10 s11 s12 .no s14 s15 s16 s17 s18 s19 s20 s21)) (π0 := (LE s0 (.own (.lst o)) s2 s3 s4 s5 s6 (.val (.tup (ls.map lgP))) s8 s9 s10 s11 s12 .no s14 s15 s16 s17 s18 s19 s20 s21)) (item := lgP)
    (fun dn acc π => ∃ (o' : List P) (l : List (Bool × Lg)), Row ns o' ∧ l.map Prod.snd = dn ∧ acc = l.map mixG ∧ π = (LE s0 (.own (.lst o')) s2 s3 s4 s5 s6 (.val (.tup (ls.map lgP))) s8 s9 s10 s11 s12 .no s14 s15 s16 s17 s18 s19 s20 s21)) ls (by simp) (by simp [chk])
    (fun dn a r acc π e ⟨o', l, ho, hl, hacc, hπ⟩ => by
      subst hπ hacc
      obtain ⟨m, o2, ho2, e2⟩ := mix (kp := lgP a) (ks := lgI a) (π := (LE s0 (.own (.lst o')) s2 s3 s4 s5 s6 (.val (.tup (ls.map lgP))) s8 s9 s10 s11 s12 (.val (lgP a)) s14 s15 s16 s17 s18 s19 s20 s21)) (i := 1) ho (.inr rfl) rfl
      refine ⟨(LE s0 (.own (.lst o')) s2 s3 s4 s5 s6 (.val (.tup (ls.map lgP))) s8 s9 s10 s11 s12 (.val (lgP a)) s14 s15 s16 s17 s18 s19 s20 s21), mixG (m, a), (LE s0 (.own (.lst o2)) s2 s3 s4 s5 s6 (.val (.tup (ls.map lgP))) s8 s9 s10 s11 s12 (.val (lgP a)) s14 s15 s16 s17 s18 s19 s20 s21), by simp, ?_, by simp [chk], o2, l ++ [(m, a)], ho2, by simp [hl], by simp, by simp [wipeE]⟩
      simp at e2
      simp [e2, mixG]) ⟨o, [], h, rfl, rfl, by simp [wipeE]⟩
  subst k4 k5
  refine ⟨o', l, ⟨k2, k3⟩, ?_⟩
  unfold lc_law_1
  refine Eq.trans k1 ?_
  simp [restE]
theorem law5 (h : Row ns o) (K : OkW b d ls) : ∃ o', Row ns o' ∧ Slaw5 (LE s0 (.own (.lst o)) s2 s3 s4 s5 s6 (.val (.tup (ls.map lgP))) (.val (.int b)) (.val (.int d)) .no .no s12 .no s14 s15 s16 s17 s18 s19 s20 s21) = .ok .nx (LE s0 (.own (.lst o')) s2 s3 s4 s5 s6 (.val (.tup (ls.map lgP))) (.val (.int b)) (.val (.int d)) (.val (wk b d ls)) (.val (.lst ((ls.map Prod.fst).map nP'))) s12 .no s14 s15 s16 s17 s18 s19 s20 s21) := by
  obtain ⟨o1, l, ⟨ho1, hl⟩, e1⟩ := lc1 (ls := ls) (s0 := s0) (s2 := s2) (s3 := s3) (s4 := s4) (s5 := s5) (s6 := s6) (s8 := .val (.int b)) (s9 := .val (.int d)) (s10 := .no) (s11 := .no) (s12 := s12) (s14 := s14) (s15 := s15) (s16 := s16) (s17 := s17) (s18 := s18) (s19 := s19) (s20 := s20) (s21 := s21) h
  obtain ⟨m, o2, ho2, e2⟩ := mix (kp := .lst (l.map mixG)) (ks := l.map mixG) (π := (LE s0 (.own (.lst o1)) s2 s3 s4 s5 s6 (.val (.tup (ls.map lgP))) (.val (.int b)) (.val (.int d)) .no .no s12 .no s14 s15 s16 s17 s18 s19 s20 s21)) (i := 1) ho1 (.inl rfl) rfl
  have e3 := fun π : En => mk_mix (π := π) (l := l) (s := m) (b := b) (d := d) (by rw [hl]; exact K)
  have e4 : lc_law_2 (LE s0 (.own (.lst o2)) s2 s3 s4 s5 s6 (.val (.tup (ls.map lgP))) (.val (.int b)) (.val (.int d)) .no .no s12 .no s14 s15 s16 s17 s18 s19 s20 s21) = .ok (.own (.lst ((ls.map Prod.fst).map nP'))) (LE s0 (.own (.lst o2)) s2 s3 s4 s5 s6 (.val (.tup (ls.map lgP))) (.val (.int b)) (.val (.int d)) .no .no s12 .no s14 s15 s16 s17 s18 s19 s20 s21) := by
    unfold lc_law_2
    rw [List.map_map]
    exact lc_map (item := lgP) (g := nP' ∘ Prod.fst) ls (by simp) (by simp [chk]) (fun x hx => ⟨(LE s0 (.own (.lst o2)) s2 s3 s4 s5 s6 (.val (.tup (ls.map lgP))) (.val (.int b)) (.val (.int d)) .no .no s12 (.val (lgP x)) s14 s15 s16 s17 s18 s19 s20 s21), by simp [wipeE], by simp [ix_0], by simp [chk], by simp [wipeE]⟩) (by simp [restE, wipeE])
  refine ⟨o2, ho2, ?_⟩
  rw [hl] at e3
  generalize (ls.map Prod.fst).map nP' = KN at *
  simp at e2
  unfold Slaw5 wk
  simp [-e_mkR, e1, e2, e3, e4]
theorem dep_legs (h : ∀ x ∈ ls, okL x) (hl : ls.length ≤ 10) : dep 3 (.tup (ls.map lgP)) = true := by
  simp only [dep, Bool.and_eq_true, decide_eq_true_eq, List.all_eq_true, List.length_map]
  refine ⟨by omega, fun p hp => ?_⟩
  obtain ⟨x, hx, rfl⟩ := List.mem_map.mp hp
  exact dep_mixG (x := (false, x)) (m := 1) (h x hx)
theorem law6 (K : OkW b d ls) (hd : d < 1440) : Slaw6 (LE s0 s1 s2 s3 s4 s5 s6 (.val (.tup (ls.map lgP))) (.val (.int b)) (.val (.int d)) (.val (wk b d ls)) s11 s12 s13 s14 s15 s16 s17 s18 s19 s20 s21) = .ok .nx (LE s0 s1 s2 s3 s4 s5 s6 (.val (.tup (ls.map lgP))) (.val (.int b)) (.val (.int d)) (.val (wk b d ls)) s11 s12 s13 s14 s15 s16 s17 s18 s19 s20 s21) := by
  have K2 : OkW b (d + 1) ls := ⟨K.le, K.ok, K.nd, K.b0, by have := K.d0; omega⟩
  have a1 := alike_ok 4 (.tup [.int b, .int d, .tup (ls.map lgP)]) (by
    rw [show dep 4 (.tup [.int b, .int d, .tup (ls.map lgP)]) = (decide (3 ≤ 100000) && (true && (true && (dep 3 (.tup (ls.map lgP)) && true)))) from rfl, dep_legs K.ok K.le]
    rfl)
  have a2 := fun π : En => mk_tupW (π := π) K
  have a3 := fun π : En => mk_tupW (π := π) K2
  have b1 := eq_ok (b := b) (d := d) (b2 := b) (d2 := d) K.ok K.ok
  have b2 := eq_ok (b := b) (d := d) (b2 := b) (d2 := d + 1) K.ok K.ok
  have b3 := eq_tup (b := b) (d := d) (ls := ls) (ps := ls.map lgP)
  have e : ¬ (d = d + 1) := by omega
  have c2 : cmpOk 6 (.tup (ls.map lgP)) = true := rfl
  unfold Slaw6
  simp only [wk] at b1 b2 b3 ⊢
  simp [e] at b1 b2
  simp [-e_mkR, a1, a2, a3, b1, b2, b3, cmp_wk, c2]
theorem law7 : Slaw7 (LE s0 s1 s2 .no s4 s5 s6 s7 s8 s9 s10 s11 s12 s13 s14 s15 s16 s17 s18 s19 s20 s21) = .ok .nx (LE s0 s1 s2 (.own (.lst [])) s4 s5 s6 s7 s8 s9 s10 s11 s12 s13 s14 s15 s16 s17 s18 s19 s20 s21) := by
  unfold Slaw7; simp
end
end PV

set_option maxHeartbeats 4000000
namespace PV
open PySem L2
theorem range_filter {α β : Type} (f : α → β) (dd : β) (p : α → Bool) : ∀ l : List α, ((List.range l.length).filter fun k => (l[k]?.map p).getD false).map (fun k => (l[k]?.map f).getD dd) = (l.filter p).map f
  | [] => rfl
  | a :: l => by
    have ih := range_filter f dd p l
    rw [List.length_cons, List.range_succ_eq_map, List.filter_cons, List.filter_map]
    have e1 : ((fun k => (((a :: l)[k]?).map p).getD false) ∘ Nat.succ) = fun k => (l[k]?.map p).getD false := by funext k; simp
    rw [e1]
    cases q : p a with
    | false =>
      simp only [List.getElem?_cons_zero, Option.map_some, Option.getD_some, q, Bool.false_eq_true, if_false, List.map_map]
      rw [List.filter_cons_of_neg (by simp [q]), ← ih]
      rfl
    | true =>
      simp only [List.getElem?_cons_zero, Option.map_some, Option.getD_some, q, if_true, List.map_cons, List.map_map]
      rw [List.filter_cons_of_pos q, List.map_cons, ← ih]
      rfl
section
variable {ls ms : List Lg} {N : List (List Nat)} {b d t : Int} {ns : List Int} {o : List P} {k : Nat} {x : Lg} {s0 s1 s2 s3 s4 s5 s6 s7 s8 s9 s10 s11 s12 s13 s14 s15 s16 s17 s18 s19 s20 s21 : Sl}
def smP (ls : List Lg) (k : Nat) : P := .lst [.int (sm col1 ls k), .int (sm col2 ls k), .int (sm col3 ls k), .int (sm col4 ls k)]
theorem lc3 {i : Int} {g : Lg → Int} (h : ∀ x, ixP (lgP x) (.int i) = some (.val (.int (g x)))) : lc_law_3 (LE s0 s1 s2 s3 (.val (.int (k : Int))) s5 s6 (.val (.tup (ls.map lgP))) s8 s9 s10 s11 s12 .no s14 s15 s16 s17 s18 s19 s20 (.val (.int i))) = .ok (.own (.lst ((ls.take (k + 1)).map fun x => P.int (g x)))) (LE s0 s1 s2 s3 (.val (.int (k : Int))) s5 s6 (.val (.tup (ls.map lgP))) s8 s9 s10 s11 s12 .no s14 s15 s16 s17 s18 s19 s20 (.val (.int i))) := by
  have hc := cut_k (ls := ls) (k := k)
  generalize ls.take (k + 1) = ms at hc ⊢
  unfold lc_law_3
  exact lc_map (item := lgP) (g := fun x => P.int (g x)) ms (by simp [hc]) (by simp [chk]) (fun x hx => ⟨(LE s0 s1 s2 s3 (.val (.int (k : Int))) s5 s6 (.val (.tup (ls.map lgP))) s8 s9 s10 s11 s12 (.val (lgP x)) s14 s15 s16 s17 s18 s19 s20 (.val (.int i))), by simp [wipeE], by simp [h], by simp [chk], by simp [wipeE]⟩) (by simp [restE, wipeE])
theorem lc4 : lc_law_4 (LE s0 s1 s2 s3 (.val (.int (k : Int))) s5 s6 (.val (.tup (ls.map lgP))) s8 s9 s10 s11 s12 .no s14 s15 s16 s17 s18 s19 s20 .no) = .ok (.own (.lst [.int (sm col1 ls k), .int (sm col2 ls k), .int (sm col3 ls k), .int (sm col4 ls k)])) (LE s0 s1 s2 s3 (.val (.int (k : Int))) s5 s6 (.val (.tup (ls.map lgP))) s8 s9 s10 s11 s12 .no s14 s15 s16 s17 s18 s19 s20 .no) := by
  have e1 := lc3 (ls := ls) (k := k) (i := 1) (g := col1) (s0 := s0) (s1 := s1) (s2 := s2) (s3 := s3) (s5 := s5) (s6 := s6) (s8 := s8) (s9 := s9) (s10 := s10) (s11 := s11) (s12 := s12) (s14 := s14) (s15 := s15) (s16 := s16) (s17 := s17) (s18 := s18) (s19 := s19) (s20 := s20) fun x => ix_1
  have e2 := lc3 (ls := ls) (k := k) (i := 2) (g := col2) (s0 := s0) (s1 := s1) (s2 := s2) (s3 := s3) (s5 := s5) (s6 := s6) (s8 := s8) (s9 := s9) (s10 := s10) (s11 := s11) (s12 := s12) (s14 := s14) (s15 := s15) (s16 := s16) (s17 := s17) (s18 := s18) (s19 := s19) (s20 := s20) fun x => ix_2
  have e3 := lc3 (ls := ls) (k := k) (i := 3) (g := col3) (s0 := s0) (s1 := s1) (s2 := s2) (s3 := s3) (s5 := s5) (s6 := s6) (s8 := s8) (s9 := s9) (s10 := s10) (s11 := s11) (s12 := s12) (s14 := s14) (s15 := s15) (s16 := s16) (s17 := s17) (s18 := s18) (s19 := s19) (s20 := s20) fun x => ix_3
  have e4 := lc3 (ls := ls) (k := k) (i := 4) (g := col4) (s0 := s0) (s1 := s1) (s2 := s2) (s3 := s3) (s5 := s5) (s6 := s6) (s8 := s8) (s9 := s9) (s10 := s10) (s11 := s11) (s12 := s12) (s14 := s14) (s15 := s15) (s16 := s16) (s17 := s17) (s18 := s18) (s19 := s19) (s20 := s20) fun x => ix_4
  unfold lc_law_4 lcF sm
  generalize ls.take (k + 1) = ms at *
  simp [lcLoop, chk, wipeE, restE, e1, e2, e3, e4, sumP_m, yesF]
theorem law8 (hl : ls.length ≤ 10) : ∃ t4, nv t4 ∧ Slaw8 (LE s0 s1 s2 (.own (.lst [])) .no s5 s6 (.val (.tup (ls.map lgP))) s8 s9 s10 s11 s12 .no s14 s15 s16 s17 s18 s19 s20 .no) = .ok .nx (LE s0 s1 s2 (.own (.lst ((List.range ls.length).map (smP ls)))) t4 s5 s6 (.val (.tup (ls.map lgP))) s8 s9 s10 s11 s12 .no s14 s15 s16 s17 s18 s19 s20 .no) := by
  have hsrc : (rng1F (consF (calF lenP (consF (varF 7) (nilF))) (nilF))) (LE s0 s1 s2 (.own (.lst [])) .no s5 s6 (.val (.tup (ls.map lgP))) s8 s9 s10 s11 s12 .no s14 s15 s16 s17 s18 s19 s20 .no) = .ok ((List.range ls.length).map fun (k : Nat) => P.int (k : Int)) (LE s0 s1 s2 (.own (.lst [])) .no s5 s6 (.val (.tup (ls.map lgP))) s8 s9 s10 s11 s12 .no s14 s15 s16 s17 s18 s19 s20 .no) := by
    rw [← rng_nat]
    simp
    omega
  unfold Slaw8 fr_law_2
  rw [e_for, hsrc, e_bok]
  obtain ⟨π', k1, t4, n4, rfl⟩ := loop_inv (t := nameT 4) (fb := (dropF (mutF appP 3 (consF (valF (takeF (lc_law_4))) (nilF))))) (fun (k : Nat) => P.int (k : Int))
    (fun dn π => ∃ t4, nv t4 ∧ π = (LE s0 s1 s2 (.own (.lst (dn.map (smP ls)))) t4 s5 s6 (.val (.tup (ls.map lgP))) s8 s9 s10 s11 s12 .no s14 s15 s16 s17 s18 s19 s20 .no)) (List.range ls.length)
    (fun dn a r π e ⟨t4, n4, hπ⟩ => by
      subst hπ
      have hlen := congrArg List.length e
      simp at hlen
      have hdn : dn.length ≤ 1000000 := by omega
      have e4 := lc4 (ls := ls) (k := a) (s0 := s0) (s1 := s1) (s2 := s2) (s3 := .own (.lst (dn.map (smP ls)))) (s5 := s5) (s6 := s6) (s8 := s8) (s9 := s9) (s10 := s10) (s11 := s11) (s12 := s12) (s14 := s14) (s15 := s15) (s16 := s16) (s17 := s17) (s18 := s18) (s19 := s19) (s20 := s20)
      refine ⟨(LE s0 s1 s2 (.own (.lst (dn.map (smP ls)))) (.val (.int (a : Int))) s5 s6 (.val (.tup (ls.map lgP))) s8 s9 s10 s11 s12 .no s14 s15 s16 s17 s18 s19 s20 .no), (LE s0 s1 s2 (.own (.lst ((dn ++ [a]).map (smP ls)))) (.val (.int (a : Int))) s5 s6 (.val (.tup (ls.map lgP))) s8 s9 s10 s11 s12 .no s14 s15 s16 s17 s18 s19 s20 .no), by simp [nv_lo n4], ?_, _, nv_v, rfl⟩
      simp [e4, hdn]
      rfl) (LE s0 s1 s2 (.own (.lst [])) .no s5 s6 (.val (.tup (ls.map lgP))) s8 s9 s10 s11 s12 .no s14 s15 s16 s17 s18 s19 s20 .no) ⟨.no, nv_no, rfl⟩
  exact ⟨t4, n4, k1⟩
theorem ix_sm {l : List Nat} (hl : l = List.range ls.length) (hk : k < ls.length) : ixP (.lst (l.map (smP ls))) (.int (k : Int)) = some (.val (smP ls k)) := by
  subst hl
  rw [ixL, atI_nat, List.getElem?_map, List.getElem?_range hk]; rfl
theorem ix_nm (hk : ls[k]? = some x) : ixP (.lst ((ls.map Prod.fst).map nP')) (.int (k : Int)) = some (.val (nP' x.1)) := by
  rw [ixL, atI_nat, List.getElem?_map, List.getElem?_map, hk]; rfl
/-- the names of those legs from whose ends one surely comes back -/
def surN (ls : List Lg) (b d : Int) : List (List Nat) := (ls.filter (sureX ls b d)).map Prod.fst
theorem sureX_at (hnd : (ls.map Prod.fst).Nodup) (hk : ls[k]? = some x) : sureX ls b d x = decide (b + sm col2 ls k + sm col4 ls k ≤ d) := by
  unfold sureX
  rw [pl_at hnd hk]
  show decide _ = decide _
  rw [decide_eq_decide]
  omega
theorem sur_mem (hnd : (ls.map Prod.fst).Nodup) (hk : ls[k]? = some x) : decide (x.1 ∈ surN ls b d) = decide (b + sm col2 ls k + sm col4 ls k ≤ d) := by
  rw [← sureX_at hnd hk]
  unfold surN
  cases q : sureX ls b d x with
  | true =>
    rw [decide_eq_true_eq]
    exact List.mem_map_of_mem (List.mem_filter.mpr ⟨List.mem_of_getElem? hk, q⟩)
  | false =>
    rw [decide_eq_false_iff_not]
    intro h
    obtain ⟨y, hy, e⟩ := List.mem_map.mp h
    rw [List.mem_filter] at hy
    obtain ⟨j, hj, ej⟩ := List.mem_iff_getElem.mp hy.1
    have h1 := pl_at hnd (k := j) (x := y) (by rw [List.getElem?_eq_getElem hj, ej])
    have h2 := pl_at hnd hk
    rw [e, h2] at h1
    cases h1
    have : x = y := by
      have h3 : ls[k]? = some y := by rw [List.getElem?_eq_getElem hj, ej]
      rw [hk] at h3
      exact Option.some.inj h3
    subst this
    rw [q] at hy
    exact absurd hy.2 (by decide)
theorem law9 (hnd : (ls.map Prod.fst).Nodup) (hl : ls.length ≤ 10) (h4 : nv s4) : Slaw9 (LE s0 s1 s2 (.own (.lst ((List.range ls.length).map (smP ls)))) s4 .no s6 (.val (.tup (ls.map lgP))) (.val (.int b)) (.val (.int d)) s10 (.val (.lst ((ls.map Prod.fst).map nP'))) s12 s13 s14 s15 s16 s17 s18 s19 s20 s21) = .ok .nx (LE s0 s1 s2 (.own (.lst ((List.range ls.length).map (smP ls)))) s4 (.own (.lst ((surN ls b d).map nP'))) s6 (.val (.tup (ls.map lgP))) (.val (.int b)) (.val (.int d)) s10 (.val (.lst ((ls.map Prod.fst).map nP'))) s12 s13 s14 s15 s16 s17 s18 s19 s20 s21) := by
  have hc : lc_law_5 (LE s0 s1 s2 (.own (.lst ((List.range ls.length).map (smP ls)))) s4 .no s6 (.val (.tup (ls.map lgP))) (.val (.int b)) (.val (.int d)) s10 (.val (.lst ((ls.map Prod.fst).map nP'))) s12 s13 s14 s15 s16 s17 s18 s19 s20 s21) = .ok (.own (.lst ((surN ls b d).map nP'))) (LE s0 s1 s2 (.own (.lst ((List.range ls.length).map (smP ls)))) s4 .no s6 (.val (.tup (ls.map lgP))) (.val (.int b)) (.val (.int d)) s10 (.val (.lst ((ls.map Prod.fst).map nP'))) s12 s13 s14 s15 s16 s17 s18 s19 s20 s21) := by
    have hsl : (surN ls b d).map nP' = ((List.range ls.length).filter fun k => (ls[k]?.map (sureX ls b d)).getD false).map (fun k => (ls[k]?.map (nP' ∘ Prod.fst)).getD P.non) := by
      unfold surN
      rw [List.map_map, range_filter]
    rw [hsl]
    refine lc_pure (item := fun (k : Nat) => P.int (k : Int)) (List.range ls.length) (by rw [← rng_nat]; simp; omega) (by rcases h4 with rfl | ⟨_, rfl⟩ <;> simp [chk]) (fun k hk => ?_) (by rcases h4 with rfl | ⟨_, rfl⟩ <;> simp [restE, wipeE])
    have hk' := List.mem_range.mp hk
    have hx : ls[k]? = some ls[k] := List.getElem?_eq_getElem hk'
    have h1 := ix_sm (ls := ls) (k := k) rfl hk'
    have h2 := ix_nm hx
    have h3 := sureX_at (b := b) (d := d) hnd hx
    generalize (List.range ls.length).map (smP ls) = SM at *
    generalize (ls.map Prod.fst).map nP' = KN at *
    refine ⟨(LE s0 s1 s2 (.own (.lst SM)) (.val (.int (k : Int))) .no s6 (.val (.tup (ls.map lgP))) (.val (.int b)) (.val (.int d)) s10 (.val (.lst KN)) s12 s13 s14 s15 s16 s17 s18 s19 s20 s21), by simp [wipeE], ?_, fun _ => ?_, by simp [chk], by simp [wipeE]⟩
    · simp [h1, smP, ixL, hx, h3]
    · simp [h2, hx]
  unfold Slaw9
  generalize (List.range ls.length).map (smP ls) = SM at *
  generalize (ls.map Prod.fst).map nP' = KN at *
  simp [hc]
theorem last_opt {G : List (List Nat)} : atI ([P.non] ++ G.map nP') (-1) = some (G.getLast?.elim .non nP') := by
  rw [atI_m1]
  cases e : G.getLast? with
  | none =>
    have : G = [] := by simpa using e
    subst this; rfl
  | some y => rw [List.getLast?_append, List.getLast?_map, e]; rfl
theorem law10 (K : OkW b d ls) : Slaw10 (LE s0 s1 s2 s3 s4 (.own (.lst ((surN ls b d).map nP'))) s6 s7 s8 s9 (.val (wk b d ls)) s11 s12 s13 s14 s15 s16 s17 s18 s19 s20 s21) = .ok .nx (LE s0 s1 s2 s3 s4 (.own (.lst ((surN ls b d).map nP'))) s6 s7 s8 s9 (.val (wk b d ls)) s11 s12 s13 s14 s15 s16 s17 s18 s19 s20 s21) := by
  have h1 : FWalk_farthest_sure [.val (wk b d ls)] = .ok (.val ((surN ls b d).getLast?.elim .non nP')) [.val (wk b d ls)] := by
    rw [farthest_ok K.ok K.nd]
    unfold surN
    rw [List.getLast?_map]
    cases (ls.filter (sureX ls b d)).getLast? <;> rfl
  have h2 := last_opt (G := surN ls b d)
  have hok : ∀ l ∈ surN ls b d, okN l := fun l hl => by
    unfold surN at hl
    obtain ⟨x, hx, rfl⟩ := List.mem_map.mp hl
    exact (K.ok x (List.mem_filter.mp hx).1).1
  have hll : 1 + (surN ls b d).length ≤ 1000000 := by
    unfold surN
    rw [List.length_map]
    have := List.length_filter_le (sureX ls b d) ls
    have := K.le
    omega
  have h3 : neP ((surN ls b d).getLast?.elim .non nP') ((surN ls b d).getLast?.elim .non nP') = some (.val (.bl false)) := neP_rf (by
    cases e : (surN ls b d).getLast? with
    | none => exact dat_non
    | some y => exact dat_N (hok y (List.mem_of_getLast? e)))
  generalize (surN ls b d) = G at *
  unfold Slaw10
  simp only [wk, List.singleton_append] at h1 h2 ⊢
  generalize (G.getLast?.elim P.non nP') = M at *
  simp [h1, ixL, h2, h3, hll]
end
end PV

set_option maxHeartbeats 4000000
namespace PV
open PySem L2
section
variable {ls ms : List Lg} {N : List (List Nat)} {b d t : Int} {ns : List Int} {o : List P} {k : Nat} {x : Lg} {s0 s1 s2 s3 s4 s5 s6 s7 s8 s9 s10 s11 s12 s13 s14 s15 s16 s17 s18 s19 s20 s21 : Sl}
theorem lc6 (h : Row ns o) (hok : ∀ x ∈ ls, okL x) (h13 : nv s13) : ∃ (o' : List P) (D : List Int), (Row ns o' ∧ sm col1 ls k ≤ D.sum ∧ D.sum ≤ sm col2 ls k) ∧
    lc_law_6 (LE s0 (.own (.lst o)) s2 s3 (.val (.int (k : Int))) s5 s6 (.val (.tup (ls.map lgP))) s8 s9 s10 s11 s12 s13 s14 s15 s16 s17 s18 s19 s20 s21) = .ok (.own (.lst (D.map P.int))) (LE s0 (.own (.lst o')) s2 s3 (.val (.int (k : Int))) s5 s6 (.val (.tup (ls.map lgP))) s8 s9 s10 s11 s12 s13 s14 s15 s16 s17 s18 s19 s20 s21) := by
  have hc := cut_k (ls := ls) (k := k)
  have hm : ∀ x ∈ ls.take (k + 1), okL x := fun x hx => hok x (List.mem_of_mem_take hx)
  unfold sm
  generalize ls.take (k + 1) = ms at *
  obtain ⟨acc, π', k1, o', D, k2, k3, k4, k5⟩ := lcSm (fi := (itF (takeF (slF (varF 7) (noP) (inP (binF addP (varF 4) (cF (.int 1)))))))) (t := (nameT 13)) (fe := (takeF (binF addP (binF ixP (varF 13) (cF (.int 1))) (callF (F_law_taken) (consF (varF 1) (consF (valF (takeF (binF addP (binF subP (binF ixP (varF 13) (cF (.int 2))) (binF ixP (varF 13) (cF (.int 1)))) (cF (.int 1))))) (nilF))))))) (vs := [13]) (π := (LE s0 (.own (.lst o)) s2 s3 (.val (.int (k : Int))) s5 s6 (.val (.tup (ls.map lgP))) s8 s9 s10 s11 s12 s13 s14 s15 s16 s17 s18 s19 s20 s21)) (π0 := (LE s0 (.own (.lst o)) s2 s3 (.val (.int (k : Int))) s5 s6 (.val (.tup (ls.map lgP))) s8 s9 s10 s11 s12 s13 s14 s15 s16 s17 s18 s19 s20 s21)) (item := lgP)
    (fun dn acc π => ∃ (o' : List P) (D : List Int), Row ns o' ∧ ((dn.map col1).sum ≤ D.sum ∧ D.sum ≤ (dn.map col2).sum) ∧ acc = D.map P.int ∧ π = (LE s0 (.own (.lst o')) s2 s3 (.val (.int (k : Int))) s5 s6 (.val (.tup (ls.map lgP))) s8 s9 s10 s11 s12 .no s14 s15 s16 s17 s18 s19 s20 s21)) ms (by simp [hc]) (by rcases h13 with rfl | ⟨_, rfl⟩ <;> simp [chk])
    (fun dn a r acc π e ⟨o', D, ho, hD, hacc, hπ⟩ => by
      subst hπ hacc
      have ha := (okL_sm (hm a (by rw [e]; simp))).1
      obtain ⟨v, o2, hv, ho2, e2⟩ := draw (π := (LE s0 (.own (.lst o')) s2 s3 (.val (.int (k : Int))) s5 s6 (.val (.tup (ls.map lgP))) s8 s9 s10 s11 s12 (.val (lgP a)) s14 s15 s16 s17 s18 s19 s20 s21)) (i := 1) (m := col2 a - col1 a + 1) ho (by omega) (by unfold Sm; omega) rfl
      refine ⟨(LE s0 (.own (.lst o')) s2 s3 (.val (.int (k : Int))) s5 s6 (.val (.tup (ls.map lgP))) s8 s9 s10 s11 s12 (.val (lgP a)) s14 s15 s16 s17 s18 s19 s20 s21), .int (col1 a + v), (LE s0 (.own (.lst o2)) s2 s3 (.val (.int (k : Int))) s5 s6 (.val (.tup (ls.map lgP))) s8 s9 s10 s11 s12 (.val (lgP a)) s14 s15 s16 s17 s18 s19 s20 s21), by simp, ?_, by simp [chk], o2, D ++ [col1 a + v], ho2, by simp; omega, by simp, by simp [wipeE]⟩
      simp at e2
      simp [e2, ix_1, ix_2]) ⟨o, [], h, by simp, rfl, by simp [wipeE]⟩
  subst k4 k5
  refine ⟨o', D, ⟨k2, k3⟩, ?_⟩
  unfold lc_law_6
  refine Eq.trans k1 ?_
  rcases h13 with rfl | ⟨_, rfl⟩ <;> simp [restE]
theorem lc7 (h : Row ns o) (hok : ∀ x ∈ ls, okL x) (h13 : nv s13) : ∃ (o' : List P) (D : List Int), (Row ns o' ∧ sm col3 ls k ≤ D.sum ∧ D.sum ≤ sm col4 ls k) ∧
    lc_law_7 (LE s0 (.own (.lst o)) s2 s3 (.val (.int (k : Int))) s5 s6 (.val (.tup (ls.map lgP))) s8 s9 s10 s11 s12 s13 s14 s15 s16 s17 s18 s19 s20 s21) = .ok (.own (.lst (D.map P.int))) (LE s0 (.own (.lst o')) s2 s3 (.val (.int (k : Int))) s5 s6 (.val (.tup (ls.map lgP))) s8 s9 s10 s11 s12 s13 s14 s15 s16 s17 s18 s19 s20 s21) := by
  have hc := cut_k (ls := ls) (k := k)
  have hm : ∀ x ∈ ls.take (k + 1), okL x := fun x hx => hok x (List.mem_of_mem_take hx)
  unfold sm
  generalize ls.take (k + 1) = ms at *
  obtain ⟨acc, π', k1, o', D, k2, k3, k4, k5⟩ := lcSm (fi := (itF (takeF (slF (varF 7) (noP) (inP (binF addP (varF 4) (cF (.int 1)))))))) (t := (nameT 13)) (fe := (takeF (binF addP (binF ixP (varF 13) (cF (.int 3))) (callF (F_law_taken) (consF (varF 1) (consF (valF (takeF (binF addP (binF subP (binF ixP (varF 13) (cF (.int 4))) (binF ixP (varF 13) (cF (.int 3)))) (cF (.int 1))))) (nilF))))))) (vs := [13]) (π := (LE s0 (.own (.lst o)) s2 s3 (.val (.int (k : Int))) s5 s6 (.val (.tup (ls.map lgP))) s8 s9 s10 s11 s12 s13 s14 s15 s16 s17 s18 s19 s20 s21)) (π0 := (LE s0 (.own (.lst o)) s2 s3 (.val (.int (k : Int))) s5 s6 (.val (.tup (ls.map lgP))) s8 s9 s10 s11 s12 s13 s14 s15 s16 s17 s18 s19 s20 s21)) (item := lgP)
    (fun dn acc π => ∃ (o' : List P) (D : List Int), Row ns o' ∧ ((dn.map col3).sum ≤ D.sum ∧ D.sum ≤ (dn.map col4).sum) ∧ acc = D.map P.int ∧ π = (LE s0 (.own (.lst o')) s2 s3 (.val (.int (k : Int))) s5 s6 (.val (.tup (ls.map lgP))) s8 s9 s10 s11 s12 .no s14 s15 s16 s17 s18 s19 s20 s21)) ms (by simp [hc]) (by rcases h13 with rfl | ⟨_, rfl⟩ <;> simp [chk])
    (fun dn a r acc π e ⟨o', D, ho, hD, hacc, hπ⟩ => by
      subst hπ hacc
      have ha := (okL_sm (hm a (by rw [e]; simp))).2
      obtain ⟨v, o2, hv, ho2, e2⟩ := draw (π := (LE s0 (.own (.lst o')) s2 s3 (.val (.int (k : Int))) s5 s6 (.val (.tup (ls.map lgP))) s8 s9 s10 s11 s12 (.val (lgP a)) s14 s15 s16 s17 s18 s19 s20 s21)) (i := 1) (m := col4 a - col3 a + 1) ho (by omega) (by unfold Sm; omega) rfl
      refine ⟨(LE s0 (.own (.lst o')) s2 s3 (.val (.int (k : Int))) s5 s6 (.val (.tup (ls.map lgP))) s8 s9 s10 s11 s12 (.val (lgP a)) s14 s15 s16 s17 s18 s19 s20 s21), .int (col3 a + v), (LE s0 (.own (.lst o2)) s2 s3 (.val (.int (k : Int))) s5 s6 (.val (.tup (ls.map lgP))) s8 s9 s10 s11 s12 (.val (lgP a)) s14 s15 s16 s17 s18 s19 s20 s21), by simp, ?_, by simp [chk], o2, D ++ [col3 a + v], ho2, by simp; omega, by simp, by simp [wipeE]⟩
      simp at e2
      simp [e2, ix_3, ix_4]) ⟨o, [], h, by simp, rfl, by simp [wipeE]⟩
  subst k4 k5
  refine ⟨o', D, ⟨k2, k3⟩, ?_⟩
  unfold lc_law_7
  refine Eq.trans k1 ?_
  rcases h13 with rfl | ⟨_, rfl⟩ <;> simp [restE]
def nextP (ls : List Lg) (k : Nat) (m : Int) : P := (ls[k + 1]?).elim .non fun y => .tup [.int (m + col1 y), .int (m + col2 y)]
def goB (ls : List Lg) (d : Int) (k : Nat) (m : Int) : Bool := (ls[k + 1]?).elim false fun y => decide (m + col2 y ≤ d - sm col4 ls (k + 1))
theorem fr3 {m : Int} (h13 : nv s13) : ∃ t13, nv t13 ∧ fr_law_3 (LE s0 s1 s2 (.own (.lst ((List.range ls.length).map (smP ls)))) (.val (.int (k : Int))) s5 s6 (.val (.tup (ls.map lgP))) s8 (.val (.int d)) s10 s11 (.val (.int m)) s13 s14 s15 s16 s17 s18 (.val .non) (.val (.bl false)) s21) = .ok .nx (LE s0 s1 s2 (.own (.lst ((List.range ls.length).map (smP ls)))) (.val (.int (k : Int))) s5 s6 (.val (.tup (ls.map lgP))) s8 (.val (.int d)) s10 s11 (.val (.int m)) t13 s14 s15 s16 s17 s18 (.val (nextP ls k m)) (.val (.bl (goB ls d k m))) s21) := by
  have hc : cutP (ls.map lgP) (some ((k : Int) + 1)) (some ((k : Int) + 2)) = ((ls[k + 1]?).toList).map lgP := by
    rw [cut_mid (by omega) (by omega), show ((k : Int) + 1).toNat = k + 1 by omega, show ((k : Int) + 2).toNat = k + 2 by omega, ← List.map_take, ← List.map_drop, List.drop_take, show k + 2 - (k + 1) = 1 by omega]
    congr 1
    rw [List.take_one, List.head?_drop]
  unfold fr_law_3 nextP goB
  cases e : ls[k + 1]? with
  | none =>
    rw [e] at hc
    refine ⟨s13, h13, ?_⟩
    generalize (List.range ls.length).map (smP ls) = SM
    simp [e_for, hc, loopF]
  | some y =>
    rw [e] at hc
    obtain ⟨hk, _⟩ := List.getElem?_eq_some_iff.mp e
    have h1 := ix_sm (ls := ls) (k := k + 1) rfl hk
    generalize (List.range ls.length).map (smP ls) = SM at *
    refine ⟨.val (lgP y), nv_v, ?_⟩
    simp at h1
    simp [e_for, hc, loopF, nv_lo h13, ix_1, ix_2, h1, smP, ixL]
end
end PV

set_option maxHeartbeats 4000000
namespace PV
open PySem L2
section
variable {ls ms : List Lg} {N : List (List Nat)} {b d t : Int} {ns : List Int} {o : List P} {k : Nat} {x : Lg} {s0 s1 s2 s3 s4 s5 s6 s7 s8 s9 s10 s11 s12 s13 s14 s15 s16 s17 s18 s19 s20 s21 : Sl}
theorem sumP_i {D : List Int} : sumP [.lst (D.map P.int)] = some (.val (.int D.sum)) := by
  have := sumP_m (g := fun i : Int => i) (l := D)
  simpa using this
theorem bodyL (K : OkW b d ls) (hk : ls[k]? = some x) (h : Row ns o) (hv : nv s12 ∧ nv s13 ∧ slLo s14 = false ∧ nv s15 ∧ nv s16 ∧ nv s17 ∧ nv s18 ∧ nv s19 ∧ nv s20) :
    ∃ (o' : List P) (t12 t13 t14 t15 t16 t17 t18 t19 t20 : Sl), (Row ns o' ∧ nv t12 ∧ nv t13 ∧ slLo t14 = false ∧ nv t15 ∧ nv t16 ∧ nv t17 ∧ nv t18 ∧ nv t19 ∧ nv t20) ∧
    (seqF (par3F 17 16 18 (consF (tupF (consF (valF (takeF (binF addP (varF 8) (binF ixP (binF ixP (varF 3) (varF 4)) (cF (.int 0)))))) (consF (valF (takeF (binF addP (varF 8) (binF ixP (binF ixP (varF 3) (varF 4)) (cF (.int 1)))))) (nilF)))) (consF (tupF (consF (binF ixP (binF ixP (varF 3) (varF 4)) (cF (.int 2))) (consF (binF ixP (binF ixP (varF 3) (varF 4)) (cF (.int 3))) (nilF)))) (consF (binF subP (varF 9) (binF ixP (binF ixP (varF 3) (varF 4)) (cF (.int 3)))) (nilF))))) (seqF (ifF (notF (tstF (callF (F_law_alike 5) (consF (tupF (consF (valF (takeF (methF 6 FWalk_place (varF 10) (consF (valF (takeF (varF 2))) (nilF))))) (consF (valF (takeF (methF 6 FWalk_arrives (varF 10) (consF (valF (takeF (varF 2))) (nilF))))) (consF (valF (takeF (methF 6 FWalk_back (varF 10) (consF (valF (takeF (varF 2))) (nilF))))) (consF (valF (takeF (methF 6 FWalk_turn_at (varF 10) (consF (valF (takeF (varF 2))) (nilF))))) (nilF)))))) (consF (tupF (consF (valF (takeF (varF 4))) (consF (valF (takeF (varF 17))) (consF (valF (takeF (varF 16))) (consF (valF (takeF (varF 18))) (nilF)))))) (nilF)))))) (retF (cF (.bl false))) (skipF)) (seqF (ifF (orF (notF (tstF (callF (F_law_truth) (consF (valF (takeF (methF 6 FWalk_surely_back (varF 10) (consF (valF (takeF (varF 2))) (nilF))))) (consF (binF (inXP false) (varF 2) (varF 5)) (nilF)))))) (notF (tstF (callF (F_law_truth) (consF (valF (takeF (methF 6 FWalk_may_be_back (varF 10) (consF (valF (takeF (varF 2))) (nilF))))) (consF (binF leP (binF addP (binF ixP (varF 17) (cF (.int 0))) (binF ixP (varF 16) (cF (.int 0)))) (varF 9)) (nilF))))))) (retF (cF (.bl false))) (skipF)) (seqF (ifF (notF (tstF (callF (F_law_alike 5) (consF (tupF (consF (valF (takeF (methF 6 FWalk_rest_at (varF 10) (consF (valF (takeF (varF 2))) (nilF))))) (consF (valF (takeF (methF 6 FWalk_latest_begin (varF 10) (consF (valF (takeF (varF 2))) (nilF))))) (nilF)))) (consF (tupF (consF (valF (takeF (binF subP (varF 18) (binF ixP (varF 17) (cF (.int 1)))))) (consF (valF (takeF (binF subP (binF addP (varF 8) (varF 18)) (binF ixP (varF 17) (cF (.int 1)))))) (nilF)))) (nilF)))))) (retF (cF (.bl false))) (skipF)) (seqF (setF 12 (binF addP (varF 8) (callF (F_law_taken) (consF (varF 1) (consF (cF (.int 300)) (nilF)))))) (seqF (asgF (tupT (consT (nameT 19) (consT (nameT 20) (nilT)))) (takeF (tupF (consF (cF .non) (consF (cF (.bl false)) (nilF)))))) (seqF (fr_law_3) (seqF (ifF (orF (tstF (binF neP (methF 6 FWalk_next_bounds (varF 10) (consF (valF (takeF (varF 2))) (consF (valF (takeF (varF 12))) (nilF)))) (varF 19))) (notF (tstF (callF (F_law_truth) (consF (valF (takeF (methF 6 FWalk_go_on (varF 10) (consF (valF (takeF (varF 2))) (consF (valF (takeF (varF 12))) (nilF)))))) (consF (valF (takeF (varF 20))) (nilF))))))) (retF (cF (.bl false))) (skipF)) (seqF (setF 14 (lc_law_6)) (seqF (setF 15 (binF addP (binF addP (varF 8) (calF sumP (consF (varF 14) (nilF)))) (calF sumP (consF (lc_law_7) (nilF))))) (ifF (orF (andF (tstF (binF (inXP false) (varF 2) (varF 5))) (tstF (binF gtP (varF 15) (varF 9)))) (andF (tstF (binF leP (varF 15) (varF 9))) (notF (tstF (methF 6 FWalk_may_be_back (varF 10) (consF (valF (takeF (varF 2))) (nilF))))))) (retF (cF (.bl false))) (skipF)))))))))))) (LE s0 (.own (.lst o)) (.val (nP' x.1)) (.own (.lst ((List.range ls.length).map (smP ls)))) (.val (.int (k : Int))) (.own (.lst ((surN ls b d).map nP'))) s6 (.val (.tup (ls.map lgP))) (.val (.int b)) (.val (.int d)) (.val (wk b d ls)) s11 s12 s13 s14 s15 s16 s17 s18 s19 s20 s21) = .ok .nx (LE s0 (.own (.lst o')) (.val (nP' x.1)) (.own (.lst ((List.range ls.length).map (smP ls)))) (.val (.int (k : Int))) (.own (.lst ((surN ls b d).map nP'))) s6 (.val (.tup (ls.map lgP))) (.val (.int b)) (.val (.int d)) (.val (wk b d ls)) s11 t12 t13 t14 t15 t16 t17 t18 t19 t20 s21) := by
  obtain ⟨n12, n13, n14, n15, n16, n17, n18, n19, n20⟩ := hv
  have hx := K.ok x (List.mem_of_getElem? hk)
  have hp := pl_at K.nd hk
  have hkl := (List.getElem?_eq_some_iff.mp hk).1
  have f1 := place_ok (b := b) (d := d) K.ok hx.1 hp
  have f2 := arrivesW_ok (b := b) (d := d) K.ok hx.1 hp
  have f3 := backW_ok (b := b) (d := d) K.ok hx.1 hp
  have f4 := turn_ok (b := b) (d := d) K.ok hx.1 hp
  have f5 := sure_ok (b := b) (d := d) K.ok hx.1 hp
  have f6 := may_ok (b := b) (d := d) K.ok hx.1 hp
  have f7 := restW_ok (b := b) (d := d) K.ok hx.1 hp
  have f8 := latest_ok (b := b) (d := d) K.ok hx.1 hp
  have g1 := ix_sm (ls := ls) (k := k) rfl hkl
  rw [show smP ls k = .lst [.int (sm col1 ls k), .int (sm col2 ls k), .int (sm col3 ls k), .int (sm col4 ls k)] from rfl] at g1
  have hokS : ∀ l ∈ surN ls b d, okN l := fun l hl => by
    unfold surN at hl
    obtain ⟨x, hx, rfl⟩ := List.mem_map.mp hl
    exact (K.ok x (List.mem_filter.mp hx).1).1
  have g2 := inN false hx.1 hokS
  simp only [Bool.false_eq_true, if_false, sur_mem K.nd hk] at g2
  have a1 := alike_ok 4 (.tup [.int (k : Int), .tup [.int (b + sm col1 ls k), .int (b + sm col2 ls k)], .tup [.int (sm col3 ls k), .int (sm col4 ls k)], .int (d - sm col4 ls k)]) (by simp [dep])
  have a2 := alike_ok 4 (.tup [.int (d - sm col4 ls k - (b + sm col2 ls k)), .int (b + (d - sm col4 ls k - (b + sm col2 ls k)))]) (by simp [dep])
  have t1 := @truth_ok (decide (b + sm col2 ls k + sm col4 ls k ≤ d))
  have t2 := @truth_ok (decide (b + sm col1 ls k + sm col3 ls k ≤ d))
  have z1 : decide (b + sm col2 ls k ≤ d - sm col4 ls k) = decide (b + sm col2 ls k + sm col4 ls k ≤ d) := by rw [decide_eq_decide]; omega
  have z2 : b + (d - sm col4 ls k) - (b + sm col2 ls k) = b + (d - sm col4 ls k - (b + sm col2 ls k)) := by omega
  rw [z1] at f5
  obtain ⟨m, o1, hm, ho1, e1⟩ := draw (π := (LE s0 (.own (.lst o)) (.val (nP' x.1)) (.own (.lst ((List.range ls.length).map (smP ls)))) (.val (.int (k : Int))) (.own (.lst ((surN ls b d).map nP'))) s6 (.val (.tup (ls.map lgP))) (.val (.int b)) (.val (.int d)) (.val (wk b d ls)) s11 s12 s13 s14 s15 (.val (.tup [.int (sm col3 ls k), .int (sm col4 ls k)])) (.val (.tup [.int (b + sm col1 ls k), .int (b + sm col2 ls k)])) (.val (.int (d - sm col4 ls k))) s19 s20 s21)) (i := 1) (m := 300) h (by omega) (by unfold Sm; omega) rfl
  obtain ⟨t13, m13, e2⟩ := fr3 (ls := ls) (d := d) (k := k) (m := b + m) (s0 := s0) (s1 := .own (.lst o1)) (s2 := .val (nP' x.1)) (s5 := .own (.lst ((surN ls b d).map nP'))) (s6 := s6) (s8 := .val (.int b)) (s10 := .val (wk b d ls)) (s11 := s11) (s13 := s13) (s14 := s14) (s15 := s15) (s16 := .val (.tup [.int (sm col3 ls k), .int (sm col4 ls k)])) (s17 := .val (.tup [.int (b + sm col1 ls k), .int (b + sm col2 ls k)])) (s18 := .val (.int (d - sm col4 ls k))) (s21 := s21) n13
  have f9 : FWalk_next_bounds [.val (wk b d ls), .val (nP' x.1), .val (.int (b + m))] = .ok (.val (nextP ls k (b + m))) [.val (wk b d ls), .val (nP' x.1), .val (.int (b + m))] := by
    rw [next_ok K.ok hx.1 hp]
    unfold nextP
    cases ls[k + 1]? <;> rfl
  have f10 : FWalk_go_on [.val (wk b d ls), .val (nP' x.1), .val (.int (b + m))] = .ok (.val (.bl (goB ls d k (b + m)))) [.val (wk b d ls), .val (nP' x.1), .val (.int (b + m))] := by
    rw [go_ok K.ok K.nd hx.1 hp]
    unfold goB
    cases ls[k + 1]? <;> rfl
  have hne : neP (nextP ls k (b + m)) (nextP ls k (b + m)) = some (.val (.bl false)) := neP_rf (by unfold nextP; cases ls[k + 1]? <;> simp)
  have t3 := @truth_ok (goB ls d k (b + m))
  obtain ⟨o2, D, ⟨ho2, hD1, hD2⟩, e3⟩ := lc6 (ls := ls) (k := k) (s0 := s0) (s2 := .val (nP' x.1)) (s3 := .own (.lst ((List.range ls.length).map (smP ls)))) (s5 := .own (.lst ((surN ls b d).map nP'))) (s6 := s6) (s8 := .val (.int b)) (s9 := .val (.int d)) (s10 := .val (wk b d ls)) (s11 := s11) (s12 := .val (.int (b + m))) (s13 := t13) (s14 := s14) (s15 := s15) (s16 := .val (.tup [.int (sm col3 ls k), .int (sm col4 ls k)])) (s17 := .val (.tup [.int (b + sm col1 ls k), .int (b + sm col2 ls k)])) (s18 := .val (.int (d - sm col4 ls k))) (s19 := .val (nextP ls k (b + m))) (s20 := .val (.bl (goB ls d k (b + m)))) (s21 := s21) ho1 K.ok m13
  obtain ⟨o3, E, ⟨ho3, hE1, hE2⟩, e4⟩ := lc7 (ls := ls) (k := k) (s0 := s0) (s2 := .val (nP' x.1)) (s3 := .own (.lst ((List.range ls.length).map (smP ls)))) (s5 := .own (.lst ((surN ls b d).map nP'))) (s6 := s6) (s8 := .val (.int b)) (s9 := .val (.int d)) (s10 := .val (wk b d ls)) (s11 := s11) (s12 := .val (.int (b + m))) (s13 := t13) (s14 := .own (.lst (D.map P.int))) (s15 := s15) (s16 := .val (.tup [.int (sm col3 ls k), .int (sm col4 ls k)])) (s17 := .val (.tup [.int (b + sm col1 ls k), .int (b + sm col2 ls k)])) (s18 := .val (.int (d - sm col4 ls k))) (s19 := .val (nextP ls k (b + m))) (s20 := .val (.bl (goB ls d k (b + m)))) (s21 := s21) ho2 K.ok m13
  refine ⟨o3, .val (.int (b + m)), t13, .own (.lst (D.map P.int)), .val (.int (b + D.sum + E.sum)), .val (.tup [.int (sm col3 ls k), .int (sm col4 ls k)]), .val (.tup [.int (b + sm col1 ls k), .int (b + sm col2 ls k)]), .val (.int (d - sm col4 ls k)), .val (nextP ls k (b + m)), .val (.bl (goB ls d k (b + m))), ⟨ho3, nv_v, m13, rfl, nv_v, nv_v, nv_v, nv_v, nv_v, nv_v⟩, ?_⟩
  generalize sm col1 ls k = c1 at *
  generalize sm col2 ls k = c2 at *
  generalize sm col3 ls k = c3 at *
  generalize sm col4 ls k = c4 at *
  generalize hSM : (List.range ls.length).map (smP ls) = SM at *
  generalize (surN ls b d).map nP' = SN at *
  generalize nextP ls k (b + m) = NX at *
  generalize goB ls d k (b + m) = GO at *
  simp at e1
  simp only [wk] at *
  by_cases q1 : b + c2 + c4 ≤ d
  · have r1 : ¬ d < b + D.sum + E.sum := by omega
    have r2 : b + c1 + c3 ≤ d := by omega
    simp [q1, r2] at f5 f6 t1 t2 g2
    simp [f1, f2, f3, f4, f5, f6, f7, f8, f9, f10, g1, g2, a1, a2, t1, t2, t3, z2, e1, e2, e3, e4, hne, sumP_i, nv_lo n12, n14, nv_lo n15, nv_lo n16, nv_lo n17, nv_lo n18, nv_lo n19, nv_lo n20, ixL, ixT, q1, r1, r2]
  · by_cases q2 : b + D.sum + E.sum ≤ d
    · have r2 : b + c1 + c3 ≤ d := by omega
      simp [q1, r2] at f5 f6 t1 t2 g2
      simp [f1, f2, f3, f4, f5, f6, f7, f8, f9, f10, g1, g2, a1, a2, t1, t2, t3, z2, e1, e2, e3, e4, hne, sumP_i, nv_lo n12, n14, nv_lo n15, nv_lo n16, nv_lo n17, nv_lo n18, nv_lo n19, nv_lo n20, ixL, ixT, q1, q2, r2]
    · simp [q1] at f5 t1 g2
      simp [f1, f2, f3, f4, f5, f6, f7, f8, f9, f10, g1, g2, a1, a2, t1, t2, t3, z2, e1, e2, e3, e4, hne, sumP_i, nv_lo n12, n14, nv_lo n15, nv_lo n16, nv_lo n17, nv_lo n18, nv_lo n19, nv_lo n20, ixL, ixT, q1, q2]
end
end PV

set_option maxHeartbeats 4000000
namespace PV
open PySem L2
section
variable {ls ms : List Lg} {N : List (List Nat)} {b d t : Int} {ns : List Int} {o : List P} {k : Nat} {x : Lg} {s0 s1 s2 s3 s4 s5 s6 s7 s8 s9 s10 s11 s12 s13 s14 s15 s16 s17 s18 s19 s20 s21 : Sl}
theorem law11 (K : OkW b d ls) (h : Row ns o) (hv : nv s2 ∧ nv s4 ∧ nv s12 ∧ nv s13 ∧ slLo s14 = false ∧ nv s15 ∧ nv s16 ∧ nv s17 ∧ nv s18 ∧ nv s19 ∧ nv s20) :
    ∃ (o' : List P) (t2 t4 t12 t13 t14 t15 t16 t17 t18 t19 t20 : Sl), Row ns o' ∧ 
    Slaw11 (LE s0 (.own (.lst o)) s2 (.own (.lst ((List.range ls.length).map (smP ls)))) s4 (.own (.lst ((surN ls b d).map nP'))) s6 (.val (.tup (ls.map lgP))) (.val (.int b)) (.val (.int d)) (.val (wk b d ls)) (.val (.lst ((ls.map Prod.fst).map nP'))) s12 s13 s14 s15 s16 s17 s18 s19 s20 s21) = .ok .nx (LE s0 (.own (.lst o')) t2 (.own (.lst ((List.range ls.length).map (smP ls)))) t4 (.own (.lst ((surN ls b d).map nP'))) s6 (.val (.tup (ls.map lgP))) (.val (.int b)) (.val (.int d)) (.val (wk b d ls)) (.val (.lst ((ls.map Prod.fst).map nP'))) t12 t13 t14 t15 t16 t17 t18 t19 t20 s21) := by
  have hen : enumP 0 ((ls.map Prod.fst).map nP') = ls.zipIdx.map fun y => P.tup [.int (y.2 : Nat), nP' y.1.1] := by
    rw [enumP_map, List.map_map, List.zipIdx_map, List.map_map]; rfl
  have hsrc : (enumAF (consV (takeF (varF 11)) (nilV))) (LE s0 (.own (.lst o)) s2 (.own (.lst ((List.range ls.length).map (smP ls)))) s4 (.own (.lst ((surN ls b d).map nP'))) s6 (.val (.tup (ls.map lgP))) (.val (.int b)) (.val (.int d)) (.val (wk b d ls)) (.val (.lst ((ls.map Prod.fst).map nP'))) s12 s13 s14 s15 s16 s17 s18 s19 s20 s21) = .ok (ls.zipIdx.map fun y => P.tup [.int (y.2 : Nat), nP' y.1.1]) (LE s0 (.own (.lst o)) s2 (.own (.lst ((List.range ls.length).map (smP ls)))) s4 (.own (.lst ((surN ls b d).map nP'))) s6 (.val (.tup (ls.map lgP))) (.val (.int b)) (.val (.int d)) (.val (wk b d ls)) (.val (.lst ((ls.map Prod.fst).map nP'))) s12 s13 s14 s15 s16 s17 s18 s19 s20 s21) := by
    generalize (ls.map Prod.fst).map nP' = KN at *
    simp [hen]
  unfold Slaw11 fr_law_4
  rw [e_for, hsrc, e_bok]
  obtain ⟨π', k1, o', t2, t4, t12, t13, t14, t15, t16, t17, t18, t19, t20, ⟨ho, _⟩, rfl⟩ := loop_inv (t := (tupT (consT (nameT 4) (consT (nameT 2) (nilT))))) (fb := (seqF (par3F 17 16 18 (consF (tupF (consF (valF (takeF (binF addP (varF 8) (binF ixP (binF ixP (varF 3) (varF 4)) (cF (.int 0)))))) (consF (valF (takeF (binF addP (varF 8) (binF ixP (binF ixP (varF 3) (varF 4)) (cF (.int 1)))))) (nilF)))) (consF (tupF (consF (binF ixP (binF ixP (varF 3) (varF 4)) (cF (.int 2))) (consF (binF ixP (binF ixP (varF 3) (varF 4)) (cF (.int 3))) (nilF)))) (consF (binF subP (varF 9) (binF ixP (binF ixP (varF 3) (varF 4)) (cF (.int 3)))) (nilF))))) (seqF (ifF (notF (tstF (callF (F_law_alike 5) (consF (tupF (consF (valF (takeF (methF 6 FWalk_place (varF 10) (consF (valF (takeF (varF 2))) (nilF))))) (consF (valF (takeF (methF 6 FWalk_arrives (varF 10) (consF (valF (takeF (varF 2))) (nilF))))) (consF (valF (takeF (methF 6 FWalk_back (varF 10) (consF (valF (takeF (varF 2))) (nilF))))) (consF (valF (takeF (methF 6 FWalk_turn_at (varF 10) (consF (valF (takeF (varF 2))) (nilF))))) (nilF)))))) (consF (tupF (consF (valF (takeF (varF 4))) (consF (valF (takeF (varF 17))) (consF (valF (takeF (varF 16))) (consF (valF (takeF (varF 18))) (nilF)))))) (nilF)))))) (retF (cF (.bl false))) (skipF)) (seqF (ifF (orF (notF (tstF (callF (F_law_truth) (consF (valF (takeF (methF 6 FWalk_surely_back (varF 10) (consF (valF (takeF (varF 2))) (nilF))))) (consF (binF (inXP false) (varF 2) (varF 5)) (nilF)))))) (notF (tstF (callF (F_law_truth) (consF (valF (takeF (methF 6 FWalk_may_be_back (varF 10) (consF (valF (takeF (varF 2))) (nilF))))) (consF (binF leP (binF addP (binF ixP (varF 17) (cF (.int 0))) (binF ixP (varF 16) (cF (.int 0)))) (varF 9)) (nilF))))))) (retF (cF (.bl false))) (skipF)) (seqF (ifF (notF (tstF (callF (F_law_alike 5) (consF (tupF (consF (valF (takeF (methF 6 FWalk_rest_at (varF 10) (consF (valF (takeF (varF 2))) (nilF))))) (consF (valF (takeF (methF 6 FWalk_latest_begin (varF 10) (consF (valF (takeF (varF 2))) (nilF))))) (nilF)))) (consF (tupF (consF (valF (takeF (binF subP (varF 18) (binF ixP (varF 17) (cF (.int 1)))))) (consF (valF (takeF (binF subP (binF addP (varF 8) (varF 18)) (binF ixP (varF 17) (cF (.int 1)))))) (nilF)))) (nilF)))))) (retF (cF (.bl false))) (skipF)) (seqF (setF 12 (binF addP (varF 8) (callF (F_law_taken) (consF (varF 1) (consF (cF (.int 300)) (nilF)))))) (seqF (asgF (tupT (consT (nameT 19) (consT (nameT 20) (nilT)))) (takeF (tupF (consF (cF .non) (consF (cF (.bl false)) (nilF)))))) (seqF (fr_law_3) (seqF (ifF (orF (tstF (binF neP (methF 6 FWalk_next_bounds (varF 10) (consF (valF (takeF (varF 2))) (consF (valF (takeF (varF 12))) (nilF)))) (varF 19))) (notF (tstF (callF (F_law_truth) (consF (valF (takeF (methF 6 FWalk_go_on (varF 10) (consF (valF (takeF (varF 2))) (consF (valF (takeF (varF 12))) (nilF)))))) (consF (valF (takeF (varF 20))) (nilF))))))) (retF (cF (.bl false))) (skipF)) (seqF (setF 14 (lc_law_6)) (seqF (setF 15 (binF addP (binF addP (varF 8) (calF sumP (consF (varF 14) (nilF)))) (calF sumP (consF (lc_law_7) (nilF))))) (ifF (orF (andF (tstF (binF (inXP false) (varF 2) (varF 5))) (tstF (binF gtP (varF 15) (varF 9)))) (andF (tstF (binF leP (varF 15) (varF 9))) (notF (tstF (methF 6 FWalk_may_be_back (varF 10) (consF (valF (takeF (varF 2))) (nilF))))))) (retF (cF (.bl false))) (skipF))))))))))))) (fun y : Lg × Nat => P.tup [.int (y.2 : Nat), nP' y.1.1])
    (fun dn π => ∃ (o' : List P) (t2 t4 t12 t13 t14 t15 t16 t17 t18 t19 t20 : Sl), (Row ns o' ∧ nv t2 ∧ nv t4 ∧ nv t12 ∧ nv t13 ∧ slLo t14 = false ∧ nv t15 ∧ nv t16 ∧ nv t17 ∧ nv t18 ∧ nv t19 ∧ nv t20) ∧ π = (LE s0 (.own (.lst o')) t2 (.own (.lst ((List.range ls.length).map (smP ls)))) t4 (.own (.lst ((surN ls b d).map nP'))) s6 (.val (.tup (ls.map lgP))) (.val (.int b)) (.val (.int d)) (.val (wk b d ls)) (.val (.lst ((ls.map Prod.fst).map nP'))) t12 t13 t14 t15 t16 t17 t18 t19 t20 s21)) ls.zipIdx
    (fun dn a r π e ⟨o', t2, t4, t12, t13, t14, t15, t16, t17, t18, t19, t20, ⟨ho, m2, m4, m12, m13, m14, m15, m16, m17, m18, m19, m20⟩, hπ⟩ => by
      subst hπ
      have hm : a ∈ ls.zipIdx := by rw [e]; simp
      have hk : ls[a.2]? = some a.1 := List.mk_mem_zipIdx_iff_getElem?.mp hm
      obtain ⟨o2, u12, u13, u14, u15, u16, u17, u18, u19, u20, ⟨ho2, q12, q13, q14, q15, q16, q17, q18, q19, q20⟩, e2⟩ := bodyL K hk (s0 := s0) (s6 := s6) (s11 := .val (.lst ((ls.map Prod.fst).map nP'))) (s12 := t12) (s13 := t13) (s14 := t14) (s15 := t15) (s16 := t16) (s17 := t17) (s18 := t18) (s19 := t19) (s20 := t20) (s21 := s21) ho ⟨m12, m13, m14, m15, m16, m17, m18, m19, m20⟩
      exact ⟨_, _, by simp [nv_lo m2, nv_lo m4], e2, o2, _, _, u12, u13, u14, u15, u16, u17, u18, u19, u20, ⟨ho2, nv_v, nv_v, q12, q13, q14, q15, q16, q17, q18, q19, q20⟩, rfl⟩)
    (LE s0 (.own (.lst o)) s2 (.own (.lst ((List.range ls.length).map (smP ls)))) s4 (.own (.lst ((surN ls b d).map nP'))) s6 (.val (.tup (ls.map lgP))) (.val (.int b)) (.val (.int d)) (.val (wk b d ls)) (.val (.lst ((ls.map Prod.fst).map nP'))) s12 s13 s14 s15 s16 s17 s18 s19 s20 s21) ⟨o, s2, s4, s12, s13, s14, s15, s16, s17, s18, s19, s20, ⟨h, hv⟩, rfl⟩
  exact ⟨o', t2, t4, t12, t13, t14, t15, t16, t17, t18, t19, t20, ho, k1⟩
theorem law12 (K : OkW b d ls) (h60 : ∀ x ∈ ls, ∀ p ∈ prt x, p ≤ 60) (hN : ∀ l ∈ N, okN l) (hs : (ls.map Prod.fst).Sublist N) (hl : N.length ≤ 100) (h : Row ns o) :
    ∃ π', Slaw12 (LE s0 (.own (.lst o)) s2 (.own (.lst ((List.range ls.length).map (smP ls)))) s4 (.own (.lst ((surN ls b d).map nP'))) (.val (.lst (N.map nP'))) (.val (.tup (ls.map lgP))) (.val (.int b)) (.val (.int d)) (.val (wk b d ls)) (.val (.lst ((ls.map Prod.fst).map nP'))) s12 s13 s14 s15 s16 s17 s18 s19 s20 s21) = .ok (.rt (.val (.bl true))) π' := by
  obtain ⟨o1, ho1, f1⟩ := seen_ok K h60 h
  have e1 := call_X3 (π := (LE s0 (.own (.lst o)) s2 (.own (.lst ((List.range ls.length).map (smP ls)))) s4 (.own (.lst ((surN ls b d).map nP'))) (.val (.lst (N.map nP'))) (.val (.tup (ls.map lgP))) (.val (.int b)) (.val (.int d)) (.val (wk b d ls)) (.val (.lst ((ls.map Prod.fst).map nP'))) s12 s13 s14 s15 s16 s17 s18 s19 s20 s21)) (i := 1) rfl rfl f1
  obtain ⟨o2, ho2, f2⟩ := refused_ok (N := N) K hN (fun x hx => hs.subset (List.mem_map_of_mem hx)) hl ho1
  have e2 := call_X3 (π := (LE s0 (.own (.lst o1)) s2 (.own (.lst ((List.range ls.length).map (smP ls)))) s4 (.own (.lst ((surN ls b d).map nP'))) (.val (.lst (N.map nP'))) (.val (.tup (ls.map lgP))) (.val (.int b)) (.val (.int d)) (.val (wk b d ls)) (.val (.lst ((ls.map Prod.fst).map nP'))) s12 s13 s14 s15 s16 s17 s18 s19 s20 s21)) (i := 1) rfl rfl f2
  generalize hKN : (ls.map Prod.fst).map nP' = KN at *
  generalize (List.range ls.length).map (smP ls) = SM at *
  simp at e1 e2
  unfold Slaw12
  simp [e1, e2]
theorem plain_all (ns : List Int) : ∃ πs, Flaw [.val (.scr ns)] = .ok (.val (.bl true)) πs := by
  have a1 := law1 (ns := ns)
  obtain ⟨o2, N, b, ⟨R2, ⟨hN1, hN2, hN3⟩, hb0, hb1⟩, a2⟩ := law2 (s0 := .val (.scr ns)) (s2 := .no) (s3 := .no) (s4 := .no) (s5 := .no) (s9 := .no) (s10 := .no) (s11 := .no) (s12 := .no) (s13 := .no) (s14 := .no) (s15 := .no) (s16 := .no) (s17 := .no) (s18 := .no) (s19 := .no) (s20 := .no) (s21 := .no) (row0 (ns := ns))
  obtain ⟨ls, o3, t2, t14, t16, ⟨R3, ⟨hl, hsub, hS⟩, m2, m14, m16⟩, a3⟩ := law3 (N := N) (s0 := .val (.scr ns)) (s3 := .no) (s4 := .no) (s5 := .no) (s8 := .val (.int b)) (s9 := .no) (s10 := .no) (s11 := .no) (s12 := .no) (s13 := .no) (s15 := .no) (s17 := .no) (s18 := .no) (s19 := .no) (s20 := .no) (s21 := .no) R2 hN3 hN1
  obtain ⟨o4, d, ⟨R4, hd0, hd1⟩, a4⟩ := law4 (ls := ls) (b := b) (s0 := .val (.scr ns)) (s2 := t2) (s3 := .no) (s4 := .no) (s5 := .no) (s6 := .val (.lst (N.map nP'))) (s10 := .no) (s11 := .no) (s12 := .no) (s13 := .no) (s14 := t14) (s15 := .no) (s16 := t16) (s17 := .no) (s18 := .no) (s19 := .no) (s20 := .no) (s21 := .no) R3
  have K : OkW b d ls := ⟨by omega, fun x hx => (hS x hx).1, hsub.nodup hN2, by omega, by omega⟩
  obtain ⟨o5, R5, a5⟩ := law5 (s0 := .val (.scr ns)) (s2 := t2) (s3 := .no) (s4 := .no) (s5 := .no) (s6 := .val (.lst (N.map nP'))) (s12 := .no) (s14 := t14) (s15 := .no) (s16 := t16) (s17 := .no) (s18 := .no) (s19 := .no) (s20 := .no) (s21 := .no) R4 K
  have a6 := law6 (s0 := .val (.scr ns)) (s1 := .own (.lst o5)) (s2 := t2) (s3 := .no) (s4 := .no) (s5 := .no) (s6 := .val (.lst (N.map nP'))) (s11 := .val (.lst ((ls.map Prod.fst).map nP'))) (s12 := .no) (s13 := .no) (s14 := t14) (s15 := .no) (s16 := t16) (s17 := .no) (s18 := .no) (s19 := .no) (s20 := .no) (s21 := .no) K (by omega)
  have a7 := law7 (s0 := .val (.scr ns)) (s1 := .own (.lst o5)) (s2 := t2) (s4 := .no) (s5 := .no) (s6 := .val (.lst (N.map nP'))) (s7 := .val (.tup (ls.map lgP))) (s8 := .val (.int b)) (s9 := .val (.int d)) (s10 := .val (wk b d ls)) (s11 := .val (.lst ((ls.map Prod.fst).map nP'))) (s12 := .no) (s13 := .no) (s14 := t14) (s15 := .no) (s16 := t16) (s17 := .no) (s18 := .no) (s19 := .no) (s20 := .no) (s21 := .no)
  obtain ⟨t4, m4, a8⟩ := law8 (ls := ls) (s0 := .val (.scr ns)) (s1 := .own (.lst o5)) (s2 := t2) (s5 := .no) (s6 := .val (.lst (N.map nP'))) (s8 := .val (.int b)) (s9 := .val (.int d)) (s10 := .val (wk b d ls)) (s11 := .val (.lst ((ls.map Prod.fst).map nP'))) (s12 := .no) (s14 := t14) (s15 := .no) (s16 := t16) (s17 := .no) (s18 := .no) (s19 := .no) (s20 := .no) K.le
  have a9 := law9 (ls := ls) (b := b) (d := d) (s0 := .val (.scr ns)) (s1 := .own (.lst o5)) (s2 := t2) (s4 := t4) (s6 := .val (.lst (N.map nP'))) (s10 := .val (wk b d ls)) (s12 := .no) (s13 := .no) (s14 := t14) (s15 := .no) (s16 := t16) (s17 := .no) (s18 := .no) (s19 := .no) (s20 := .no) (s21 := .no) K.nd K.le m4
  have a10 := law10 (s0 := .val (.scr ns)) (s1 := .own (.lst o5)) (s2 := t2) (s3 := .own (.lst ((List.range ls.length).map (smP ls)))) (s4 := t4) (s6 := .val (.lst (N.map nP'))) (s7 := .val (.tup (ls.map lgP))) (s8 := .val (.int b)) (s9 := .val (.int d)) (s11 := .val (.lst ((ls.map Prod.fst).map nP'))) (s12 := .no) (s13 := .no) (s14 := t14) (s15 := .no) (s16 := t16) (s17 := .no) (s18 := .no) (s19 := .no) (s20 := .no) (s21 := .no) K
  obtain ⟨o11, u2, u4, u12, u13, u14, u15, u16, u17, u18, u19, u20, R11, a11⟩ := law11 (s0 := .val (.scr ns)) (s2 := t2) (s4 := t4) (s6 := .val (.lst (N.map nP'))) (s12 := .no) (s13 := .no) (s14 := t14) (s15 := .no) (s16 := t16) (s17 := .no) (s18 := .no) (s19 := .no) (s20 := .no) (s21 := .no) K R5 ⟨m2, m4, nv_no, nv_no, nv_lo m14, nv_no, m16, nv_no, nv_no, nv_no, nv_no⟩
  obtain ⟨πe, a12⟩ := law12 (N := N) (s0 := .val (.scr ns)) (s2 := u2) (s4 := u4) (s12 := u12) (s13 := u13) (s14 := u14) (s15 := u15) (s16 := u16) (s17 := u17) (s18 := u18) (s19 := u19) (s20 := u20) (s21 := .no) K (fun x hx => (hS x hx).2) hN3 hsub (by omega) R11
  have hB : Blaw ([.val (.scr ns)] ++ List.replicate 21 .no) = .ok (.rt (.val (.bl true))) πe := by
    show Blaw (LE (.val (.scr ns)) .no .no .no .no .no .no .no .no .no .no .no .no .no .no .no .no .no .no .no .no .no) = _
    unfold Blaw
    rw [seq_ok a1, seq_ok a2, seq_ok a3, seq_ok a4, seq_ok a5, seq_ok a6, seq_ok a7, seq_ok a8, seq_ok a9, seq_ok a10, seq_ok a11, a12]
  unfold Flaw
  rw [e_fn, hB]
  exact ⟨_, rfl⟩
theorem plain : ∀ ns : List Int, ns.length ≤ 63 → ∃ πs, Flaw [.val (.scr ns)] = .ok (.val (.bl true)) πs := fun ns _ => plain_all ns
end
end PV

open PySem PySem.W PyProof.Rows
set_option maxRecDepth 100000 in
set_option maxHeartbeats 0 in
theorem PySem.Challenge.cw_huttohut_k15_whole_turns_holds : PySem.Challenge.rw_huttohut_k15_whole_turns.Holds := by
  w_on; o_law; k_head; (case hw => w_witness2)
  k_fill
  refine PV.walk (l := PySem.Challenge.rw_huttohut_k15_whole_turns) rfl rfl rfl (fun w h Y => PySem.W.kIn_of Y) ?F
  case F =>
    intro w mg fa h KX G hmg
    refine' PV.all_mk PV.plain KX G hmg ?z_all_ ?z_bool_ ?z_enumerate ?z_int_ ?z_isinstance ?z_len ?z_list ?z_range ?z_repr ?z_str_ ?z_sum ?z_super ?z_tuple ?g_FIGURES ?g_LETTERS ?g_LONGEST_NAME ?g_MOST_POINTS ?a_HutsError ?a_BadNumber ?a_BadItem ?a_TooMany ?a_Unknown ?a_Taken ?a_Walk ?anyT ?l_BadNumber ?v_BadNumber ?s_BadNumber ?e_BadNumber ?t_BadNumber ?k_BadNumber ?i_BadNumber ?it_BadNumber ?il_BadNumber ?ic_BadNumber ?cc_BadNumber' ?co_BadNumber ?cv_BadNumber ?cf_BadNumber ?cd_BadNumber' ?m_BadNumber ?lb_BadNumber ?fi_BadNumber ?mr_BadNumber ?b_BadNumber ?n_BadNumber_value ?x1_BadNumber ?x2_BadNumber ?x4_BadNumber ?l_BadItem ?v_BadItem ?s_BadItem ?e_BadItem ?t_BadItem ?k_BadItem ?i_BadItem ?it_BadItem ?il_BadItem ?ic_BadItem ?cc_BadItem' ?co_BadItem ?cv_BadItem ?cf_BadItem ?cd_BadItem' ?m_BadItem ?lb_BadItem ?fi_BadItem ?mr_BadItem ?b_BadItem ?n_BadItem_index ?x1_BadItem ?x2_BadItem ?x4_BadItem ?l_TooMany ?v_TooMany ?s_TooMany ?e_TooMany ?t_TooMany ?k_TooMany ?i_TooMany ?it_TooMany ?il_TooMany ?ic_TooMany ?cc_TooMany' ?co_TooMany ?cv_TooMany ?cf_TooMany ?cd_TooMany' ?m_TooMany ?lb_TooMany ?fi_TooMany ?mr_TooMany ?b_TooMany ?n_TooMany_limit ?x1_TooMany ?x2_TooMany ?x4_TooMany ?l_Unknown ?v_Unknown ?s_Unknown ?e_Unknown ?t_Unknown ?k_Unknown ?i_Unknown ?it_Unknown ?il_Unknown ?ic_Unknown ?cc_Unknown' ?co_Unknown ?cv_Unknown ?cf_Unknown ?cd_Unknown' ?m_Unknown ?lb_Unknown ?fi_Unknown ?mr_Unknown ?b_Unknown ?n_Unknown_value ?x1_Unknown ?x2_Unknown ?x4_Unknown ?l_Taken ?v_Taken ?s_Taken ?e_Taken ?t_Taken ?k_Taken ?i_Taken ?it_Taken ?il_Taken ?ic_Taken ?cc_Taken' ?co_Taken ?cv_Taken ?cf_Taken ?cd_Taken' ?m_Taken ?lb_Taken ?fi_Taken ?mr_Taken ?b_Taken ?n_Taken_value ?x1_Taken ?x2_Taken ?x4_Taken ?hnG ?htG ?pg_Walk ?hd_Walk ?po_Walk ?sa_Walk ?mk_Walk ?kc_Walk ?ha_Walk ?hm_Walk ?hc_Walk ?ty_Walk ?ne_Walk ?na_Walk_begin ?na_Walk_dark ?na_Walk_legs ?h_HutsError_BadNumber ?h_BadNumber_BadNumber ?h_BadItem_BadNumber ?h_TooMany_BadNumber ?h_Unknown_BadNumber ?h_Taken_BadNumber ?h_Walk_BadNumber ?h_HutsError_BadItem ?h_BadNumber_BadItem ?h_BadItem_BadItem ?h_TooMany_BadItem ?h_Unknown_BadItem ?h_Taken_BadItem ?h_Walk_BadItem ?h_HutsError_TooMany ?h_BadNumber_TooMany ?h_BadItem_TooMany ?h_TooMany_TooMany ?h_Unknown_TooMany ?h_Taken_TooMany ?h_Walk_TooMany ?h_HutsError_Unknown ?h_BadNumber_Unknown ?h_BadItem_Unknown ?h_TooMany_Unknown ?h_Unknown_Unknown ?h_Taken_Unknown ?h_Walk_Unknown ?h_HutsError_Taken ?h_BadNumber_Taken ?h_BadItem_Taken ?h_TooMany_Taken ?h_Unknown_Taken ?h_Taken_Taken ?h_Walk_Taken ?a__law_taken ?l__law_taken ?c__law_taken ?k__law_taken ?a__law_pick ?l__law_pick ?c__law_pick ?k__law_pick ?a__law_name ?l__law_name ?c__law_name ?k__law_name ?a__law_names ?l__law_names ?c__law_names ?k__law_names ?a_is_whole ?l_is_whole ?c_is_whole ?k_is_whole ?a_is_number ?l_is_number ?c_is_number ?k_is_number ?a_want_number ?l_want_number ?c_want_number ?k_want_number ?a_frozen ?l_frozen ?c_frozen ?k_frozen ?a_is_row ?l_is_row ?c_is_row ?k_is_row ?a_is_name ?l_is_name ?c_is_name ?k_is_name ?a_is_leg ?l_is_leg ?c_is_leg ?k_is_leg ?a_want_row ?l_want_row ?c_want_row ?k_want_row ?a_Walk_init ?i_Walk_init ?l_Walk_init ?c_Walk_init ?k_Walk_init ?a_Walk_eq ?i_Walk_eq ?l_Walk_eq ?c_Walk_eq ?k_Walk_eq ?a_Walk_place ?i_Walk_place ?l_Walk_place ?c_Walk_place ?k_Walk_place ?a_Walk_back ?i_Walk_back ?l_Walk_back ?c_Walk_back ?k_Walk_back ?a_Walk_turn_at ?i_Walk_turn_at ?l_Walk_turn_at ?c_Walk_turn_at ?k_Walk_turn_at ?a_Walk_arrives ?i_Walk_arrives ?l_Walk_arrives ?c_Walk_arrives ?k_Walk_arrives ?a_Walk_surely_back ?i_Walk_surely_back ?l_Walk_surely_back ?c_Walk_surely_back ?k_Walk_surely_back ?a_Walk_farthest_sure ?i_Walk_farthest_sure ?l_Walk_farthest_sure ?c_Walk_farthest_sure ?k_Walk_farthest_sure ?a__law_some ?l__law_some ?c__law_some ?k__law_some ?a__law_truth ?l__law_truth ?c__law_truth ?k__law_truth ?a_Walk_can_be ?i_Walk_can_be ?l_Walk_can_be ?c_Walk_can_be ?k_Walk_can_be ?a_Walk_must_turn ?i_Walk_must_turn ?l_Walk_must_turn ?c_Walk_must_turn ?k_Walk_must_turn ?a_Walk_slower ?i_Walk_slower ?l_Walk_slower ?c_Walk_slower ?k_Walk_slower ?a_Walk_later ?i_Walk_later ?l_Walk_later ?c_Walk_later ?k_Walk_later ?a__law_seen ?l__law_seen ?c__law_seen ?k__law_seen ?a__law_strange ?l__law_strange ?c__law_strange ?k__law_strange ?a_want_minute ?l_want_minute ?c_want_minute ?k_want_minute ?a__law_whole ?l__law_whole ?c__law_whole ?k__law_whole ?a__law_refused_row ?l__law_refused_row ?c__law_refused_row ?k__law_refused_row ?a__law_raised ?l__law_raised ?c__law_raised ?k__law_raised ?a__law_refused ?l__law_refused ?c__law_refused ?k__law_refused ?a__law_mixed ?l__law_mixed ?c__law_mixed ?k__law_mixed ?a__law_alike ?l__law_alike ?c__law_alike ?k__law_alike ?a_Walk_next_bounds ?i_Walk_next_bounds ?l_Walk_next_bounds ?c_Walk_next_bounds ?k_Walk_next_bounds ?a_Walk_may_be_back ?i_Walk_may_be_back ?l_Walk_may_be_back ?c_Walk_may_be_back ?k_Walk_may_be_back ?a_Walk_rest_at ?i_Walk_rest_at ?l_Walk_rest_at ?c_Walk_rest_at ?k_Walk_rest_at ?a_Walk_latest_begin ?i_Walk_latest_begin ?l_Walk_latest_begin ?c_Walk_latest_begin ?k_Walk_latest_begin ?a_Walk_go_on ?i_Walk_go_on ?l_Walk_go_on ?c_Walk_go_on ?k_Walk_go_on ?a_law ?l_law ?c_law ?k_law
    (case z_all_ => k_is)
    (case z_bool_ => k_is)
    (case z_enumerate => k_is)
    (case z_int_ => k_is)
    (case z_isinstance => k_is)
    (case z_len => k_is)
    (case z_list => k_is)
    (case z_range => k_is)
    (case z_repr => k_is)
    (case z_str_ => k_is)
    (case z_sum => k_is)
    (case z_super => k_is)
    (case z_tuple => k_is)
    (case g_FIGURES => k_is)
    (case g_LETTERS => k_is)
    (case g_LONGEST_NAME => k_is)
    (case g_MOST_POINTS => k_is)
    (case a_HutsError => k_is)
    (case a_BadNumber => k_is)
    (case a_BadItem => k_is)
    (case a_TooMany => k_is)
    (case a_Unknown => k_is)
    (case a_Taken => k_is)
    (case a_Walk => k_is)
    (case anyT => k_is)
    (case l_BadNumber => k_is)
    (case v_BadNumber => first | rfl | decide | decide +kernel)
    (case s_BadNumber => k_is)
    (case e_BadNumber => k_is)
    (case t_BadNumber => k_is)
    (case k_BadNumber => k_is)
    (case i_BadNumber => k_is)
    (case it_BadNumber => k_is)
    (case il_BadNumber => k_is)
    (case ic_BadNumber => k_is)
    (case cc_BadNumber' => k_is)
    (case co_BadNumber => k_is)
    (case cv_BadNumber => first | rfl | decide | decide +kernel)
    (case cf_BadNumber => first | rfl | decide | decide +kernel)
    (case cd_BadNumber' => k_is)
    (case m_BadNumber => k_is)
    (case lb_BadNumber => k_is)
    (case fi_BadNumber => k_is)
    (case mr_BadNumber => first | rfl | decide | decide +kernel)
    (case b_BadNumber => k_is)
    (case n_BadNumber_value => k_is)
    (case x1_BadNumber => k_is)
    (case x2_BadNumber => k_is)
    (case x4_BadNumber => k_is)
    (case l_BadItem => k_is)
    (case v_BadItem => first | rfl | decide | decide +kernel)
    (case s_BadItem => k_is)
    (case e_BadItem => k_is)
    (case t_BadItem => k_is)
    (case k_BadItem => k_is)
    (case i_BadItem => k_is)
    (case it_BadItem => k_is)
    (case il_BadItem => k_is)
    (case ic_BadItem => k_is)
    (case cc_BadItem' => k_is)
    (case co_BadItem => k_is)
    (case cv_BadItem => first | rfl | decide | decide +kernel)
    (case cf_BadItem => first | rfl | decide | decide +kernel)
    (case cd_BadItem' => k_is)
    (case m_BadItem => k_is)
    (case lb_BadItem => k_is)
    (case fi_BadItem => k_is)
    (case mr_BadItem => first | rfl | decide | decide +kernel)
    (case b_BadItem => k_is)
    (case n_BadItem_index => k_is)
    (case x1_BadItem => k_is)
    (case x2_BadItem => k_is)
    (case x4_BadItem => k_is)
    (case l_TooMany => k_is)
    (case v_TooMany => first | rfl | decide | decide +kernel)
    (case s_TooMany => k_is)
    (case e_TooMany => k_is)
    (case t_TooMany => k_is)
    (case k_TooMany => k_is)
    (case i_TooMany => k_is)
    (case it_TooMany => k_is)
    (case il_TooMany => k_is)
    (case ic_TooMany => k_is)
    (case cc_TooMany' => k_is)
    (case co_TooMany => k_is)
    (case cv_TooMany => first | rfl | decide | decide +kernel)
    (case cf_TooMany => first | rfl | decide | decide +kernel)
    (case cd_TooMany' => k_is)
    (case m_TooMany => k_is)
    (case lb_TooMany => k_is)
    (case fi_TooMany => k_is)
    (case mr_TooMany => first | rfl | decide | decide +kernel)
    (case b_TooMany => k_is)
    (case n_TooMany_limit => k_is)
    (case x1_TooMany => k_is)
    (case x2_TooMany => k_is)
    (case x4_TooMany => k_is)
    (case l_Unknown => k_is)
    (case v_Unknown => first | rfl | decide | decide +kernel)
    (case s_Unknown => k_is)
    (case e_Unknown => k_is)
    (case t_Unknown => k_is)
    (case k_Unknown => k_is)
    (case i_Unknown => k_is)
    (case it_Unknown => k_is)
    (case il_Unknown => k_is)
    (case ic_Unknown => k_is)
    (case cc_Unknown' => k_is)
    (case co_Unknown => k_is)
    (case cv_Unknown => first | rfl | decide | decide +kernel)
    (case cf_Unknown => first | rfl | decide | decide +kernel)
    (case cd_Unknown' => k_is)
    (case m_Unknown => k_is)
    (case lb_Unknown => k_is)
    (case fi_Unknown => k_is)
    (case mr_Unknown => first | rfl | decide | decide +kernel)
    (case b_Unknown => k_is)
    (case n_Unknown_value => k_is)
    (case x1_Unknown => k_is)
    (case x2_Unknown => k_is)
    (case x4_Unknown => k_is)
    (case l_Taken => k_is)
    (case v_Taken => first | rfl | decide | decide +kernel)
    (case s_Taken => k_is)
    (case e_Taken => k_is)
    (case t_Taken => k_is)
    (case k_Taken => k_is)
    (case i_Taken => k_is)
    (case it_Taken => k_is)
    (case il_Taken => k_is)
    (case ic_Taken => k_is)
    (case cc_Taken' => k_is)
    (case co_Taken => k_is)
    (case cv_Taken => first | rfl | decide | decide +kernel)
    (case cf_Taken => first | rfl | decide | decide +kernel)
    (case cd_Taken' => k_is)
    (case m_Taken => k_is)
    (case lb_Taken => k_is)
    (case fi_Taken => k_is)
    (case mr_Taken => first | rfl | decide | decide +kernel)
    (case b_Taken => k_is)
    (case n_Taken_value => k_is)
    (case x1_Taken => k_is)
    (case x2_Taken => k_is)
    (case x4_Taken => k_is)
    (case hnG => k_is)
    (case htG => k_is)
    (case pg_Walk => k_is)
    (case hd_Walk => k_is)
    (case po_Walk => k_is)
    (case sa_Walk => k_is)
    (case mk_Walk => k_is)
    (case kc_Walk => k_is)
    (case ha_Walk => k_is)
    (case hm_Walk => k_is)
    (case hc_Walk => k_is)
    (case ty_Walk => k_is)
    (case ne_Walk => k_is)
    (case na_Walk_begin => k_is)
    (case na_Walk_dark => k_is)
    (case na_Walk_legs => k_is)
    (case h_HutsError_BadNumber => k_is)
    (case h_BadNumber_BadNumber => k_is)
    (case h_BadItem_BadNumber => k_is)
    (case h_TooMany_BadNumber => k_is)
    (case h_Unknown_BadNumber => k_is)
    (case h_Taken_BadNumber => k_is)
    (case h_Walk_BadNumber => k_is)
    (case h_HutsError_BadItem => k_is)
    (case h_BadNumber_BadItem => k_is)
    (case h_BadItem_BadItem => k_is)
    (case h_TooMany_BadItem => k_is)
    (case h_Unknown_BadItem => k_is)
    (case h_Taken_BadItem => k_is)
    (case h_Walk_BadItem => k_is)
    (case h_HutsError_TooMany => k_is)
    (case h_BadNumber_TooMany => k_is)
    (case h_BadItem_TooMany => k_is)
    (case h_TooMany_TooMany => k_is)
    (case h_Unknown_TooMany => k_is)
    (case h_Taken_TooMany => k_is)
    (case h_Walk_TooMany => k_is)
    (case h_HutsError_Unknown => k_is)
    (case h_BadNumber_Unknown => k_is)
    (case h_BadItem_Unknown => k_is)
    (case h_TooMany_Unknown => k_is)
    (case h_Unknown_Unknown => k_is)
    (case h_Taken_Unknown => k_is)
    (case h_Walk_Unknown => k_is)
    (case h_HutsError_Taken => k_is)
    (case h_BadNumber_Taken => k_is)
    (case h_BadItem_Taken => k_is)
    (case h_TooMany_Taken => k_is)
    (case h_Unknown_Taken => k_is)
    (case h_Taken_Taken => k_is)
    (case h_Walk_Taken => k_is)
    (case a__law_taken => k_is)
    (case l__law_taken => k_is)
    (case c__law_taken => k_is)
    (case k__law_taken => k_is)
    (case a__law_pick => k_is)
    (case l__law_pick => k_is)
    (case c__law_pick => k_is)
    (case k__law_pick => k_is)
    (case a__law_name => k_is)
    (case l__law_name => k_is)
    (case c__law_name => k_is)
    (case k__law_name => k_is)
    (case a__law_names => k_is)
    (case l__law_names => k_is)
    (case c__law_names => k_is)
    (case k__law_names => k_is)
    (case a_is_whole => k_is)
    (case l_is_whole => k_is)
    (case c_is_whole => k_is)
    (case k_is_whole => k_is)
    (case a_is_number => k_is)
    (case l_is_number => k_is)
    (case c_is_number => k_is)
    (case k_is_number => k_is)
    (case a_want_number => k_is)
    (case l_want_number => k_is)
    (case c_want_number => k_is)
    (case k_want_number => k_is)
    (case a_frozen => k_is)
    (case l_frozen => k_is)
    (case c_frozen => k_is)
    (case k_frozen => k_is)
    (case a_is_row => k_is)
    (case l_is_row => k_is)
    (case c_is_row => k_is)
    (case k_is_row => k_is)
    (case a_is_name => k_is)
    (case l_is_name => k_is)
    (case c_is_name => k_is)
    (case k_is_name => k_is)
    (case a_is_leg => k_is)
    (case l_is_leg => k_is)
    (case c_is_leg => k_is)
    (case k_is_leg => k_is)
    (case a_want_row => k_is)
    (case l_want_row => k_is)
    (case c_want_row => k_is)
    (case k_want_row => k_is)
    (case a_Walk_init => k_is)
    (case i_Walk_init => k_is)
    (case l_Walk_init => k_is)
    (case c_Walk_init => k_is)
    (case k_Walk_init => k_is)
    (case a_Walk_eq => k_is)
    (case i_Walk_eq => k_is)
    (case l_Walk_eq => k_is)
    (case c_Walk_eq => k_is)
    (case k_Walk_eq => k_is)
    (case a_Walk_place => k_is)
    (case i_Walk_place => k_is)
    (case l_Walk_place => k_is)
    (case c_Walk_place => k_is)
    (case k_Walk_place => k_is)
    (case a_Walk_back => k_is)
    (case i_Walk_back => k_is)
    (case l_Walk_back => k_is)
    (case c_Walk_back => k_is)
    (case k_Walk_back => k_is)
    (case a_Walk_turn_at => k_is)
    (case i_Walk_turn_at => k_is)
    (case l_Walk_turn_at => k_is)
    (case c_Walk_turn_at => k_is)
    (case k_Walk_turn_at => k_is)
    (case a_Walk_arrives => k_is)
    (case i_Walk_arrives => k_is)
    (case l_Walk_arrives => k_is)
    (case c_Walk_arrives => k_is)
    (case k_Walk_arrives => k_is)
    (case a_Walk_surely_back => k_is)
    (case i_Walk_surely_back => k_is)
    (case l_Walk_surely_back => k_is)
    (case c_Walk_surely_back => k_is)
    (case k_Walk_surely_back => k_is)
    (case a_Walk_farthest_sure => k_is)
    (case i_Walk_farthest_sure => k_is)
    (case l_Walk_farthest_sure => k_is)
    (case c_Walk_farthest_sure => k_is)
    (case k_Walk_farthest_sure => k_is)
    (case a__law_some => k_is)
    (case l__law_some => k_is)
    (case c__law_some => k_is)
    (case k__law_some => k_is)
    (case a__law_truth => k_is)
    (case l__law_truth => k_is)
    (case c__law_truth => k_is)
    (case k__law_truth => k_is)
    (case a_Walk_can_be => k_is)
    (case i_Walk_can_be => k_is)
    (case l_Walk_can_be => k_is)
    (case c_Walk_can_be => k_is)
    (case k_Walk_can_be => k_is)
    (case a_Walk_must_turn => k_is)
    (case i_Walk_must_turn => k_is)
    (case l_Walk_must_turn => k_is)
    (case c_Walk_must_turn => k_is)
    (case k_Walk_must_turn => k_is)
    (case a_Walk_slower => k_is)
    (case i_Walk_slower => k_is)
    (case l_Walk_slower => k_is)
    (case c_Walk_slower => k_is)
    (case k_Walk_slower => k_is)
    (case a_Walk_later => k_is)
    (case i_Walk_later => k_is)
    (case l_Walk_later => k_is)
    (case c_Walk_later => k_is)
    (case k_Walk_later => k_is)
    (case a__law_seen => k_is)
    (case l__law_seen => k_is)
    (case c__law_seen => k_is)
    (case k__law_seen => k_is)
    (case a__law_strange => k_is)
    (case l__law_strange => k_is)
    (case c__law_strange => k_is)
    (case k__law_strange => k_is)
    (case a_want_minute => k_is)
    (case l_want_minute => k_is)
    (case c_want_minute => k_is)
    (case k_want_minute => k_is)
    (case a__law_whole => k_is)
    (case l__law_whole => k_is)
    (case c__law_whole => k_is)
    (case k__law_whole => k_is)
    (case a__law_refused_row => k_is)
    (case l__law_refused_row => k_is)
    (case c__law_refused_row => k_is)
    (case k__law_refused_row => k_is)
    (case a__law_raised => k_is)
    (case l__law_raised => k_is)
    (case c__law_raised => k_is)
    (case k__law_raised => k_is)
    (case a__law_refused => k_is)
    (case l__law_refused => k_is)
    (case c__law_refused => k_is)
    (case k__law_refused => k_is)
    (case a__law_mixed => k_is)
    (case l__law_mixed => k_is)
    (case c__law_mixed => k_is)
    (case k__law_mixed => k_is)
    (case a__law_alike => k_is)
    (case l__law_alike => k_is)
    (case c__law_alike => k_is)
    (case k__law_alike => k_is)
    (case a_Walk_next_bounds => k_is)
    (case i_Walk_next_bounds => k_is)
    (case l_Walk_next_bounds => k_is)
    (case c_Walk_next_bounds => k_is)
    (case k_Walk_next_bounds => k_is)
    (case a_Walk_may_be_back => k_is)
    (case i_Walk_may_be_back => k_is)
    (case l_Walk_may_be_back => k_is)
    (case c_Walk_may_be_back => k_is)
    (case k_Walk_may_be_back => k_is)
    (case a_Walk_rest_at => k_is)
    (case i_Walk_rest_at => k_is)
    (case l_Walk_rest_at => k_is)
    (case c_Walk_rest_at => k_is)
    (case k_Walk_rest_at => k_is)
    (case a_Walk_latest_begin => k_is)
    (case i_Walk_latest_begin => k_is)
    (case l_Walk_latest_begin => k_is)
    (case c_Walk_latest_begin => k_is)
    (case k_Walk_latest_begin => k_is)
    (case a_Walk_go_on => k_is)
    (case i_Walk_go_on => k_is)
    (case l_Walk_go_on => k_is)
    (case c_Walk_go_on => k_is)
    (case k_Walk_go_on => k_is)
    (case a_law => k_is)
    (case l_law => k_is)
    (case c_law => k_is)
    (case k_law => k_is)
