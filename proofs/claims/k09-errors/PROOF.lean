import PyProof.Rows.All
import Wide.All
import OpenK.AllK
import Wide.FinOn
import HandS.ForMost
import HandS.ForExc
import HandS.ExcInit
import HandS.ExcField
import HandS.ExcSuper
import HandS.TryMany
import HandS.CallSlots
import HandS.CallLocal
import HandS.Wide
import HandS.Flow
import HandS.IsInst
import HandS.Codes
import HandS.TupAny
import HandS.TupMul
import HandS.Deep
import HandS.Conv
import HandS.Style
import HandS.ExcOwn
import HandS.Nested
import KE.KExcSuper
import HandS.Ends
import HandS.ExcIs
import KE.GoesEnum
import HandS.Zip
import KE.SortData
import KE.DataMinMax
import KE.DataFind
import HandS.RaiseMore
import HandS.SetFor
import HandS.SetKeys
import HandS.TupSets
import HandS.ListItems
import KE.KDictZip
import KE.GoesRaise
import KE.KDictKeyed
import KE.KDictPairs
import HandS.DeepEq
import HandS.MakeKwOnly
import PySem.Challenge.RW_huttohut_k09_errors
set_option Elab.async false
set_option linter.all false
set_option maxRecDepth 100000
/-! PV: values without addresses; slots that own what they may change; combinators over slots, and the rules that tie them to the judgements of the hand layer. -/
namespace PV
open PySem L2

/-- a value by itself: data, an object by its class's number, a def by its number -/
inductive P where
  | non | bl (b : Bool) | int (i : Int) | str (x : Str)
  | tup (xs : List P) | lst (xs : List P)
  | dct (t : Bool) (ks vs : List P)
  | obj (C : Nat) (vs : List P)
  | fn (f : Nat)
  | scr (ns : List Int)
  | ty (n : String) | cls (C : Nat)
  | nt (xs : List P)
  deriving Inhabited

/-- where the numbered classes and defs stand; the fields of a class in the order of their first store; st: every tuple is tracked as one -/
structure Ctx where
  K : PySem.W.Frag
  cls : Nat → Addr
  lay : Nat → List Str
  fna : Nat → Addr
  st : Bool := false

def keyP : Key → P
  | .inl i => .int i
  | .inr x => .str x
def tkeyP (k : List Key) : P := .tup (k.map keyP)

/-- H knows what F knows; a dict may be locked -/
def Le (F H : Hp) : Prop := ∀ a u, F a = some u → H a = some u ∨ ((∃ k, u = .dK k ∨ ∃ k, u = .dT k) ∧ ∃ ob, H a = some (.frz ob u))
theorem Le.refl (F : Hp) : Le F F := fun _ _ h => .inl h
theorem Le.trans {F G H : Hp} (a : Le F G) (b : Le G H) : Le F H := fun x u h => by
  rcases a x u h with h | ⟨hd, ob, h⟩
  · exact b x u h
  · rcases b x _ h with h | ⟨⟨k, h | ⟨k, h⟩⟩, _⟩
    · exact .inr ⟨hd, ob, h⟩
    · cases h
    · cases h
theorem Le.rd {F H : Hp} (l : Le F H) {a : Addr} {u : HO} (h : Rd F a u) : Rd H a u := by
  rcases h with h | ⟨o, h⟩
  · rcases l a u h with h | ⟨_, ob, h⟩
    · exact .inl h
    · exact .inr ⟨ob, h⟩
  · rcases l a _ h with h | ⟨⟨k, h | ⟨k, h⟩⟩, _⟩
    · exact .inr ⟨o, h⟩
    · cases h
    · cases h
theorem Le.sqL {K : PySem.W.Frag} {F H : Hp} (l : Le F H) {a : Addr} {xs : List V} (h : SqL K F a xs) : SqL K H a xs := by
  rcases h with h | h
  · exact .inl (l.rd h)
  · exact .inr h
theorem Le.sqT {K : PySem.W.Frag} {F H : Hp} (l : Le F H) {a : Addr} {xs : List V} (h : SqT K F a xs) : SqT K H a xs := by
  rcases h with h | h
  · exact .inl (l.rd h)
  · exact .inr h
theorem Le.tup {F H : Hp} (l : Le F H) {a : Addr} {xs : List V} (h : F a = some (.tup xs)) : H a = some (.tup xs) := by
  rcases l a _ h with h | ⟨⟨k, h | ⟨k, h⟩⟩, _⟩
  · exact h
  · cases h
  · cases h
/-- a tuple's object -/
def TupR (c : Ctx) (H : Hp) (a : Addr) (xs : List V) : Prop := if c.st = true then H a = some (.tup xs) else SqT c.K H a xs
theorem TupR.of {c : Ctx} {H : Hp} {a : Addr} {xs : List V} (h : H a = some (.tup xs)) : TupR c H a xs := by
  unfold TupR
  split
  · exact h
  · exact .of h
theorem TupR.sq {c : Ctx} {H : Hp} {a : Addr} {xs : List V} (h : TupR c H a xs) : SqT c.K H a xs := by
  unfold TupR at h
  split at h
  · exact .of h
  · exact h
theorem TupR.st {c : Ctx} {H : Hp} {a : Addr} {xs : List V} (hc : c.st = true) (h : TupR c H a xs) : H a = some (.tup xs) := by
  unfold TupR at h
  rw [if_pos hc] at h
  exact h
theorem Le.tupR {c : Ctx} {F H : Hp} (l : Le F H) {a : Addr} {xs : List V} (h : TupR c F a xs) : TupR c H a xs := by
  unfold TupR at h ⊢
  split
  · rename_i z
    rw [if_pos z] at h
    exact l.tup h
  · rename_i z
    rw [if_neg z] at h
    exact l.sqT h
theorem Le.ins {F H : Hp} (l : Le F H) {a C dx : Addr} {fs : List (Str × V)} (h : F a = some (.ins C dx fs)) : H a = some (.ins C dx fs) := by
  rcases l a _ h with h | ⟨⟨k, h | ⟨k, h⟩⟩, _⟩
  · exact h
  · cases h
  · cases h
theorem Le.lst {F H : Hp} (l : Le F H) {a : Addr} {xs : List V} (h : F a = some (.lst xs)) : H a = some (.lst xs) := by
  rcases l a _ h with h | ⟨⟨k, h | ⟨k, h⟩⟩, _⟩
  · exact h
  · cases h
  · cases h
theorem Le.xd {F H : Hp} (l : Le F H) {a : Addr} {fs : List (Str × V)} (h : F a = some (.xd fs)) : H a = some (.xd fs) := by
  rcases l a _ h with h | ⟨⟨k, h | ⟨k, h⟩⟩, _⟩
  · exact h
  · cases h
  · cases h
theorem Le.frzT {F H : Hp} (l : Le F H) {a : Addr} {o : Obj} {xs : List V} (h : F a = some (.frz o (.tup xs))) : H a = some (.frz o (.tup xs)) := by
  rcases l a _ h with h | ⟨⟨k, h | ⟨k, h⟩⟩, _⟩
  · exact h
  · cases h
  · cases h
theorem Le.gone {F H : Hp} (l : Le F H) {a : Addr} (h : H a = Option.none) : F a = Option.none := by
  cases e : F a with
  | none => rfl
  | some u =>
    rcases l a u e with q | ⟨_, _, q⟩
    · rw [h] at q; cases q
    · rw [h] at q; cases q
theorem Le.upd {F H : Hp} (l : Le F H) (a : Addr) (o : HO) : Le (L2.upd F a o) (L2.upd H a o) := fun b u h => by
  by_cases e : b = a
  · subst e; rw [upd_same] at h ⊢; exact .inl h
  · rw [upd_ne e] at h ⊢; exact l b u h
theorem Le.updR {F H : Hp} (l : Le F H) {a : Addr} (o : HO) (h : F a = Option.none) : Le F (L2.upd H a o) := fun b u e => by
  by_cases q : b = a
  · subst q; rw [h] at e; cases e
  · rw [upd_ne q]; exact l b u e
theorem Le.new {F : Hp} {a : Addr} (o : HO) (h : F a = Option.none) : Le F (L2.upd F a o) := (Le.refl F).updR o h

/-! ### what value stands for what -/
mutual
def Rp (c : Ctx) (H : Hp) : P → V → Prop
  | .non, v => v = .non
  | .bl b, v => v = .bl b
  | .int i, v => v = .int i
  | .str x, v => v = .str x
  | .tup ps, v => ∃ a vs, v = .ref a ∧ TupR c H a vs ∧ Rps c H ps vs
  | .lst ps, v => ∃ a vs, v = .ref a ∧ H a = some (.lst vs) ∧ Rps c H ps vs
  | .scr ns, v => ∃ a, v = .ref a ∧ SqL c.K H a (ns.map V.int)
  | .dct t ks ws, v => ∃ a vs, v = .ref a ∧ Rps c H ws vs ∧
      (if t = true then ∃ kvs : List (List Key × V), Rd H a (.dT kvs) ∧ ks = kvs.map (fun q => tkeyP q.1) ∧ vs = kvs.map (·.2) ∧ (kvs.map (·.1)).Nodup
       else ∃ kvs : List (Key × V), Rd H a (.dK kvs) ∧ ks = kvs.map (fun q => keyP q.1) ∧ vs = kvs.map (·.2) ∧ (kvs.map (·.1)).Nodup)
  | .obj C ps, v => ∃ a dx vs, v = .ref a ∧ H a = some (.ins (c.cls C) dx ((c.lay C).zip vs)) ∧ Rps c H ps vs
  | .fn f, v => v = .ref (c.fna f)
  | .ty n, v => v = .ty n
  | .cls C, v => v = .ref (c.cls C)
  | .nt ps, v => ∃ a o vs, v = .ref a ∧ o.dict = none ∧ H a = some (.frz o (.tup vs)) ∧ Rps c H ps vs
def Rps (c : Ctx) (H : Hp) : List P → List V → Prop
  | [], vs => vs = []
  | p :: ps, vs => ∃ v r, vs = v :: r ∧ Rp c H p v ∧ Rps c H ps r
end
mutual
theorem Rp.mono {c : Ctx} {F H : Hp} (l : Le F H) : ∀ (p : P) (v : V), Rp c F p v → Rp c H p v
  | .non, _, h => by unfold Rp at h ⊢; exact h
  | .bl _, _, h => by unfold Rp at h ⊢; exact h
  | .int _, _, h => by unfold Rp at h ⊢; exact h
  | .str _, _, h => by unfold Rp at h ⊢; exact h
  | .fn _, _, h => by unfold Rp at h ⊢; exact h
  | .ty _, _, h => by unfold Rp at h ⊢; exact h
  | .cls _, _, h => by unfold Rp at h ⊢; exact h
  | .tup ps, _, h => by
    unfold Rp at h ⊢
    obtain ⟨a, vs, e, h1, h2⟩ := h
    exact ⟨a, vs, e, l.tupR h1, Rps.mono l ps vs h2⟩
  | .lst ps, _, h => by
    unfold Rp at h ⊢
    obtain ⟨a, vs, e, h1, h2⟩ := h
    exact ⟨a, vs, e, l.lst h1, Rps.mono l ps vs h2⟩
  | .scr ns, _, h => by
    unfold Rp at h ⊢
    obtain ⟨a, e, h1⟩ := h
    exact ⟨a, e, l.sqL h1⟩
  | .dct t ks ws, _, h => by
    unfold Rp at h ⊢
    obtain ⟨a, vs, e, h1, h2⟩ := h
    refine ⟨a, vs, e, Rps.mono l ws vs h1, ?_⟩
    cases t
    · obtain ⟨kvs, q⟩ := h2
      exact ⟨kvs, l.rd q.1, q.2⟩
    · obtain ⟨kvs, q⟩ := h2
      exact ⟨kvs, l.rd q.1, q.2⟩
  | .obj C ps, _, h => by
    unfold Rp at h ⊢
    obtain ⟨a, dx, vs, e, h1, h2⟩ := h
    exact ⟨a, dx, vs, e, l.ins h1, Rps.mono l ps vs h2⟩
  | .nt ps, _, h => by
    unfold Rp at h ⊢
    obtain ⟨a, o, vs, e, h0, h1, h2⟩ := h
    exact ⟨a, o, vs, e, h0, l.frzT h1, Rps.mono l ps vs h2⟩
theorem Rps.mono {c : Ctx} {F H : Hp} (l : Le F H) : ∀ (ps : List P) (vs : List V), Rps c F ps vs → Rps c H ps vs
  | [], _, h => by unfold Rps at h ⊢; exact h
  | p :: ps, _, h => by
    unfold Rps at h ⊢
    obtain ⟨v, r, e, h1, h2⟩ := h
    exact ⟨v, r, e, Rp.mono l p v h1, Rps.mono l ps r h2⟩
end
section
variable {c : Ctx} {F H : Hp} {p q : P} {ps qs : List P} {v : V} {vs ws : List V}
theorem rps_nil : Rps c H [] [] := by unfold Rps; rfl
theorem rps_cons (h : Rp c H p v) (t : Rps c H ps vs) : Rps c H (p :: ps) (v :: vs) := by unfold Rps; exact ⟨v, vs, rfl, h, t⟩
theorem rps_inv (h : Rps c H (p :: ps) vs) : ∃ v r, vs = v :: r ∧ Rp c H p v ∧ Rps c H ps r := by unfold Rps at h; exact h
theorem rps_nil_inv (h : Rps c H [] vs) : vs = [] := by unfold Rps at h; exact h
theorem rps_len : ∀ {ps : List P} {vs : List V}, Rps c H ps vs → ps.length = vs.length
  | [], _, h => by rw [rps_nil_inv h]; rfl
  | p :: ps, _, h => by
    obtain ⟨v, r, rfl, _, h2⟩ := rps_inv h
    simp [rps_len h2]
theorem rps_get : ∀ {ps : List P} {vs : List V} {i : Nat} {p : P}, Rps c H ps vs → ps[i]? = some p → ∃ v, vs[i]? = some v ∧ Rp c H p v
  | [], _, _, _, _, e => by simp at e
  | _ :: _, _, 0, _, h, e => by
    obtain ⟨v, r, rfl, h1, _⟩ := rps_inv h
    simp at e; subst e
    exact ⟨v, rfl, h1⟩
  | _ :: _, _, i + 1, _, h, e => by
    obtain ⟨v, r, rfl, _, h2⟩ := rps_inv h
    obtain ⟨w, h3, h4⟩ := rps_get (i := i) h2 (by simpa using e)
    exact ⟨w, by simpa using h3, h4⟩
theorem rps_getV : ∀ {ps : List P} {vs : List V} {i : Nat} {v : V}, Rps c H ps vs → vs[i]? = some v → ∃ p, ps[i]? = some p ∧ Rp c H p v
  | [], _, _, _, h, e => by rw [rps_nil_inv h] at e; simp at e
  | _ :: _, _, 0, _, h, e => by
    obtain ⟨v, r, rfl, h1, _⟩ := rps_inv h
    simp at e; subst e
    exact ⟨_, rfl, h1⟩
  | _ :: _, _, i + 1, _, h, e => by
    obtain ⟨v, r, rfl, _, h2⟩ := rps_inv h
    obtain ⟨w, h3, h4⟩ := rps_getV (i := i) h2 (by simpa using e)
    exact ⟨w, by simpa using h3, h4⟩
theorem rps_append : ∀ {ps qs : List P} {vs ws : List V}, Rps c H ps vs → Rps c H qs ws → Rps c H (ps ++ qs) (vs ++ ws)
  | [], _, _, _, h, k => by rw [rps_nil_inv h]; exact k
  | p :: ps, _, _, _, h, k => by
    obtain ⟨v, r, rfl, h1, h2⟩ := rps_inv h
    exact rps_cons h1 (rps_append h2 k)
theorem rps_drop : ∀ {ps : List P} {vs : List V} (n : Nat), Rps c H ps vs → Rps c H (ps.drop n) (vs.drop n)
  | _, _, 0, h => h
  | [], _, n + 1, h => by rw [rps_nil_inv h]; exact rps_nil
  | p :: ps, _, n + 1, h => by
    obtain ⟨v, r, rfl, h1, h2⟩ := rps_inv h
    exact rps_drop n h2
theorem rps_take : ∀ {ps : List P} {vs : List V} (n : Nat), Rps c H ps vs → Rps c H (ps.take n) (vs.take n)
  | _, _, 0, h => rps_nil
  | [], _, n + 1, h => by rw [rps_nil_inv h]; exact rps_nil
  | p :: ps, _, n + 1, h => by
    obtain ⟨v, r, rfl, h1, h2⟩ := rps_inv h
    exact rps_cons h1 (rps_take n h2)
theorem rps_set : ∀ {ps : List P} {vs : List V} (n : Nat) {p : P} {v : V}, Rps c H ps vs → Rp c H p v → Rps c H (ps.set n p) (vs.set n v)
  | [], _, _, _, _, h, _ => by rw [rps_nil_inv h]; exact rps_nil
  | _ :: _, _, 0, _, _, h, k => by
    obtain ⟨v, r, rfl, h1, h2⟩ := rps_inv h
    exact rps_cons k h2
  | _ :: _, _, n + 1, _, _, h, k => by
    obtain ⟨v, r, rfl, h1, h2⟩ := rps_inv h
    exact rps_cons h1 (rps_set n h2 k)
theorem rps_reverse : ∀ {ps : List P} {vs : List V}, Rps c H ps vs → Rps c H ps.reverse vs.reverse
  | [], _, h => by rw [rps_nil_inv h]; exact rps_nil
  | p :: ps, _, h => by
    obtain ⟨v, r, rfl, h1, h2⟩ := rps_inv h
    rw [List.reverse_cons, List.reverse_cons]
    exact rps_append (rps_reverse h2) (rps_cons h1 rps_nil)
theorem rp_int {i : Int} (h : Rp c H (.int i) v) : v = .int i := by unfold Rp at h; exact h
theorem rp_bl {b : Bool} (h : Rp c H (.bl b) v) : v = .bl b := by unfold Rp at h; exact h
theorem rp_str {x : Str} (h : Rp c H (.str x) v) : v = .str x := by unfold Rp at h; exact h
theorem rp_non (h : Rp c H .non v) : v = .non := by unfold Rp at h; exact h
theorem rp_fn {f : Nat} (h : Rp c H (.fn f) v) : v = .ref (c.fna f) := by unfold Rp at h; exact h
theorem rp_ty {n : String} (h : Rp c H (.ty n) v) : v = .ty n := by unfold Rp at h; exact h
theorem rp_cls {C : Nat} (h : Rp c H (.cls C) v) : v = .ref (c.cls C) := by unfold Rp at h; exact h
theorem mk_ty {n : String} : Rp c H (.ty n) (.ty n) := by unfold Rp; rfl
theorem mk_cls {C : Nat} : Rp c H (.cls C) (.ref (c.cls C)) := by unfold Rp; rfl
theorem mk_fn {f : Nat} : Rp c H (.fn f) (.ref (c.fna f)) := by unfold Rp; rfl
theorem rp_tupR (h : Rp c H (.tup ps) v) : ∃ a vs, v = .ref a ∧ TupR c H a vs ∧ Rps c H ps vs := by unfold Rp at h; exact h
theorem rp_tup (h : Rp c H (.tup ps) v) : ∃ a vs, v = .ref a ∧ SqT c.K H a vs ∧ Rps c H ps vs := by
  obtain ⟨a, vs, e, h1, h2⟩ := rp_tupR h
  exact ⟨a, vs, e, h1.sq, h2⟩
theorem rp_scr {ns : List Int} (h : Rp c H (.scr ns) v) : ∃ a, v = .ref a ∧ SqL c.K H a (ns.map V.int) := by unfold Rp at h; exact h
theorem mk_scr {a : Addr} {ns : List Int} (h : SqL c.K H a (ns.map V.int)) : Rp c H (.scr ns) (.ref a) := by unfold Rp; exact ⟨a, rfl, h⟩
theorem rp_lst (h : Rp c H (.lst ps) v) : ∃ a vs, v = .ref a ∧ H a = some (.lst vs) ∧ Rps c H ps vs := by unfold Rp at h; exact h
theorem rp_obj {C : Nat} (h : Rp c H (.obj C ps) v) : ∃ a dx vs, v = .ref a ∧ H a = some (.ins (c.cls C) dx ((c.lay C).zip vs)) ∧ Rps c H ps vs := by unfold Rp at h; exact h
theorem mk_int {i : Int} : Rp c H (.int i) (.int i) := by unfold Rp; rfl
theorem mk_bl {b : Bool} : Rp c H (.bl b) (.bl b) := by unfold Rp; rfl
theorem mk_str {x : Str} : Rp c H (.str x) (.str x) := by unfold Rp; rfl
theorem mk_non : Rp c H .non .non := by unfold Rp; rfl
theorem mk_tup {a : Addr} (h : H a = some (.tup vs)) (r : Rps c H ps vs) : Rp c H (.tup ps) (.ref a) := by unfold Rp; exact ⟨a, vs, rfl, .of h, r⟩
theorem mk_lst {a : Addr} (h : H a = some (.lst vs)) (r : Rps c H ps vs) : Rp c H (.lst ps) (.ref a) := by unfold Rp; exact ⟨a, vs, rfl, h, r⟩
theorem mk_obj {a dx : Addr} {C : Nat} (h : H a = some (.ins (c.cls C) dx ((c.lay C).zip vs))) (r : Rps c H ps vs) : Rp c H (.obj C ps) (.ref a) := by unfold Rp; exact ⟨a, dx, vs, rfl, h, r⟩
end

/-! ### slots -/
/-- what a slot owns: nothing else leads to it -/
inductive O where
  | lst (xs : List P) | dct (t : Bool) (ks vs : List P) | obj (C : Nat) (vs : List P)
def O.toP : O → P
  | .lst xs => .lst xs
  | .dct t ks vs => .dct t ks vs
  | .obj C vs => .obj C vs
/-- a slot: empty, a value that never changes, an object of its own, an object lent by the caller -/
inductive Sl where
  | no | val (p : P) | own (o : O) | loan (o : O)
def Sl.ow : Sl → Option O
  | .own o => some o
  | .loan o => some o
  | _ => none
abbrev En := List Sl
/-- an object that is owned: its parts never change (they lie in F) -/
def OwR (c : Ctx) (F H : Hp) : O → Addr → Prop
  | .lst ps, a => ∃ vs, H a = some (.lst vs) ∧ Rps c F ps vs
  | .dct t ks ws, a => ∃ vs, Rps c F ws vs ∧
      (if t = true then ∃ kvs : List (List Key × V), H a = some (.dT kvs) ∧ ks = kvs.map (fun q => tkeyP q.1) ∧ vs = kvs.map (·.2) ∧ (kvs.map (·.1)).Nodup
       else ∃ kvs : List (Key × V), H a = some (.dK kvs) ∧ ks = kvs.map (fun q => keyP q.1) ∧ vs = kvs.map (·.2) ∧ (kvs.map (·.1)).Nodup)
  | .obj C ps, a => ∃ dx vs, H a = some (.ins (c.cls C) dx ((c.lay C).zip vs)) ∧ Rps c F ps vs
theorem OwR.there {c : Ctx} {F H : Hp} {o : O} {a : Addr} (h : OwR c F H o a) : ∃ u, H a = some u := by
  cases o with
  | lst ps => obtain ⟨vs, h, _⟩ := h; exact ⟨_, h⟩
  | dct t ks ws =>
    obtain ⟨vs, _, h⟩ := h
    cases t
    · obtain ⟨kvs, h, _⟩ := h; exact ⟨_, h⟩
    · obtain ⟨kvs, h, _⟩ := h; exact ⟨_, h⟩
  | obj C ps => obtain ⟨dx, vs, h, _⟩ := h; exact ⟨_, h⟩
theorem OwR.step {c : Ctx} {F H F' H' : Hp} {o : O} {a : Addr} (h : OwR c F H o a) (l : Le F F') (k : ∀ u, H a = some u → H' a = some u) : OwR c F' H' o a := by
  cases o with
  | lst ps => obtain ⟨vs, h, r⟩ := h; exact ⟨vs, k _ h, Rps.mono l _ _ r⟩
  | dct t ks ws =>
    obtain ⟨vs, r, h⟩ := h
    refine ⟨vs, Rps.mono l _ _ r, ?_⟩
    cases t
    · obtain ⟨kvs, h, q⟩ := h; exact ⟨kvs, k _ h, q⟩
    · obtain ⟨kvs, h, q⟩ := h; exact ⟨kvs, k _ h, q⟩
  | obj C ps => obtain ⟨dx, vs, h, r⟩ := h; exact ⟨dx, vs, k _ h, Rps.mono l _ _ r⟩
/-- seen as a value, where its object is known -/
theorem OwR.rp {c : Ctx} {F H G : Hp} {o : O} {a : Addr} (h : OwR c F H o a) (l : Le F G) (k : ∀ u, H a = some u → G a = some u) : Rp c G o.toP (.ref a) := by
  cases o with
  | lst ps => obtain ⟨vs, h, r⟩ := h; exact mk_lst (k _ h) (Rps.mono l _ _ r)
  | dct t ks ws =>
    obtain ⟨vs, r, h⟩ := h
    show Rp c G (.dct t ks ws) (.ref a)
    unfold Rp
    refine ⟨a, vs, rfl, Rps.mono l _ _ r, ?_⟩
    cases t
    · obtain ⟨kvs, h, q⟩ := h; exact ⟨kvs, .inl (k _ h), q⟩
    · obtain ⟨kvs, h, q⟩ := h; exact ⟨kvs, .inl (k _ h), q⟩
  | obj C ps => obtain ⟨dx, vs, h, r⟩ := h; exact mk_obj (k _ h) (Rps.mono l _ _ r)

def Own (π : En) (σ : L2.St) (a : Addr) : Prop := ∃ (i : Nat) (s : Sl) (o : O), π[i]? = some s ∧ s.ow = some o ∧ σ[i]? = some (some (.ref a))
def Lent (π : En) (σ : L2.St) (a : Addr) : Prop := ∃ (i : Nat) (o : O), π[i]? = some (.loan o) ∧ σ[i]? = some (some (.ref a))
theorem Lent.own {π : En} {σ : L2.St} {a : Addr} (h : Lent π σ a) : Own π σ a := by
  obtain ⟨i, o, h1, h2⟩ := h
  exact ⟨i, _, o, h1, rfl, h2⟩
/-- slots σ and heap H stand for π; F: what never changes -/
structure SR (c : Ctx) (F : Hp) (π : En) (σ : L2.St) (H : Hp) : Prop where
  le : Le F H
  len : π.length = σ.length
  vl : ∀ (i : Nat) (p : P), π[i]? = some (.val p) → ∃ v, σ[i]? = some (some v) ∧ Rp c F p v
  ow : ∀ (i : Nat) (s : Sl) (o : O), π[i]? = some s → s.ow = some o → ∃ a, σ[i]? = some (some (.ref a)) ∧ F a = none ∧ OwR c F H o a
  dj : ∀ (i j : Nat) (s s' : Sl) (o o' : O) (a : Addr), π[i]? = some s → s.ow = some o → π[j]? = some s' → s'.ow = some o' → σ[i]? = some (some (.ref a)) → σ[j]? = some (some (.ref a)) → i = j
/-- from (F, π, σ, H) on -/
structure Tr (F : Hp) (π : En) (σ : L2.St) (H F' : Hp) (π' : En) (σ' : L2.St) (H' : Hp) : Prop where
  le : Le F F'
  keep : ∀ a o, H a = some o → ¬ Own π σ a → H' a = some o
  new : ∀ a, F' a ≠ none → F a ≠ none ∨ H a = none ∨ Own π σ a
  own : ∀ a, Own π' σ' a → H a = none ∨ Own π σ a
  ln : ∀ (i : Nat) (o : O), π[i]? = some (.loan o) → σ'[i]? = σ[i]? ∧ ∃ o', π'[i]? = some (.loan o')
theorem Tr.refl {F : Hp} {π : En} {σ : L2.St} {H : Hp} : Tr F π σ H F π σ H :=
  ⟨Le.refl F, fun _ _ h _ => h, fun _ h => .inl h, fun _ h => .inr h, fun i o h => ⟨rfl, o, h⟩⟩
theorem Tr.trans {F F1 F2 : Hp} {π π1 π2 : En} {σ σ1 σ2 : L2.St} {H H1 H2 : Hp} (a : Tr F π σ H F1 π1 σ1 H1) (b : Tr F1 π1 σ1 H1 F2 π2 σ2 H2) : Tr F π σ H F2 π2 σ2 H2 where
  le := a.le.trans b.le
  keep := fun x o h n => b.keep x o (a.keep x o h n) fun z => by
    rcases a.own x z with q | q
    · rw [h] at q; cases q
    · exact n q
  new := fun x h => by
    rcases b.new x h with q | q | q
    · exact a.new x q
    · by_cases n : Own π σ x
      · exact .inr (.inr n)
      · cases e : H x with
        | none => exact .inr (.inl rfl)
        | some o => rw [a.keep x o e n] at q; cases q
    · rcases a.own x q with q | q
      · exact .inr (.inl q)
      · exact .inr (.inr q)
  own := fun x h => by
    rcases b.own x h with q | q
    · by_cases n : Own π σ x
      · exact .inr n
      · cases e : H x with
        | none => exact .inl rfl
        | some o => rw [a.keep x o e n] at q; cases q
    · exact a.own x q
  ln := fun i o h => by
    obtain ⟨e1, o1, h1⟩ := a.ln i o h
    obtain ⟨e2, o2, h2⟩ := b.ln i o1 h1
    exact ⟨e2.trans e1, o2, h2⟩
/-- fresh with regard to a start -/
def Fr0 (π : En) (σ : L2.St) (H : Hp) (a : Addr) : Prop := H a = none ∨ Own π σ a
theorem Fr0.back {F F1 : Hp} {π π1 : En} {σ σ1 : L2.St} {H H1 : Hp} (t : Tr F π σ H F1 π1 σ1 H1) {a : Addr} (h : Fr0 π1 σ1 H1 a) : Fr0 π σ H a := by
  rcases h with q | q
  · by_cases n : Own π σ a
    · exact .inr n
    · cases e : H a with
      | none => exact .inl e
      | some o => rw [t.keep a o e n] at q; cases q
  · exact t.own a q
end PV

namespace PV
open PySem L2

/-- a result: a value, a new object that nothing else leads to, or what slot i owns -/
inductive Rs where
  | val (p : P) | own (o : O) | bor (i : Nat)
inductive Rv where
  | val (p : P) | own (o : O)
inductive Out (α : Type) where
  | ok (a : α) (π : En) | exc (C : Nat) (ps : List P) (π : En) | bad
abbrev M (α : Type) := En → Out α
def Out.bind {α β : Type} (o : Out α) (f : α → M β) : Out β := match o with
  | .ok a π => f a π
  | .exc C ps π => .exc C ps π
  | .bad => .bad
def M.bind {α β : Type} (m : M α) (f : α → M β) : M β := fun π => (m π).bind f

/-- an exception's own dict -/
def XdOk (c : Ctx) (F : Hp) (C : Nat) (ps : List P) (d : Option Addr) : Prop :=
  (c.lay C = [] ∧ d = none) ∨ ∃ a vs, d = some a ∧ F a = some (.xd ((c.lay C).zip vs).reverse) ∧ Rps c F ps vs
/-- what is wanted of exceptions; what is known of F besides -/
structure Wi where
  W : WX
  g : L2.St → Hp → Prop
  mono : ∀ {σ : L2.St} (F F' : Hp), Le F F' → g σ F → g σ F'
/-- .. whatever the slots hold -/
structure Ws where
  W : WX
  g : Hp → Prop
  mono : ∀ F F', Le F F' → g F → g F'
def Ws.up (w : Ws) : Wi := ⟨w.W, fun _ => w.g, fun F F' => w.mono F F'⟩
instance : Coe Ws Wi := ⟨Ws.up⟩

def Po {α : Type} (c : Ctx) (W : WX) (F : Hp) (π : En) (σ : L2.St) (H : Hp) (o : Out α) (K : α → En → Hp → Hp → Prop) : Prop := match o with
  | .ok a π' => ∀ F' H', Tr F π σ H F' π' σ H' → SR c F' π' σ H' → K a π' F' H'
  | .exc C ps π' => ∀ F' H' d, Tr F π σ H F' π' σ H' → SR c F' π' σ H' → XdOk c F' C ps d → W (.ref (c.cls C)) d σ H'
  | .bad => False
section
variable {α β : Type} {c : Ctx} {W : WX} {F F1 H H1 : Hp} {π π1 : En} {σ : L2.St} {o : Out α} {K K' : α → En → Hp → Hp → Prop} {J : β → En → Hp → Hp → Prop}
theorem Po.mono (h : Po c W F π σ H o K) (k : ∀ a π' F' H', Tr F π σ H F' π' σ H' → SR c F' π' σ H' → K a π' F' H' → K' a π' F' H') : Po c W F π σ H o K' := by
  cases o with
  | ok a π' => exact fun F' H' t s => k a π' F' H' t s (h F' H' t s)
  | exc C ps π' => exact h
  | bad => exact h
theorem Po.from (h : Po c W F π σ H o K) (t : Tr F π σ H F1 π1 σ H1) : Po c W F1 π1 σ H1 o K := by
  cases o with
  | ok a π' => exact fun F' H' t' s => h F' H' (t.trans t') s
  | exc C ps π' => exact fun F' H' d t' s => h F' H' d (t.trans t') s
  | bad => exact h
theorem Po.split {f : α → M β} (h : Po c W F π σ H (o.bind f) J) : Po c W F π σ H o (fun a π1 F1 H1 => Po c W F1 π1 σ H1 (f a π1) J) := by
  cases o with
  | ok a π' => exact fun F' H' t s => Po.from h t
  | exc C ps π' => exact h
  | bad => exact h
end

/-- what a result is -/
def RR (c : Ctx) (π0 : En) (H0 F : Hp) (π : En) (σ : L2.St) (H : Hp) : Rs → V → Prop
  | .val p, v => Rp c F p v
  | .own o, v => ∃ a, v = .ref a ∧ F a = none ∧ ¬ Own π σ a ∧ OwR c F H o a ∧ Fr0 π0 σ H0 a
  | .bor i, v => σ[i]? = some (some v)
def rdP (π : En) : Rs → Option P
  | .val p => some p
  | .own o => some o.toP
  | .bor i => match π[i]? with
    | some (.own o) => some o.toP
    | some (.loan o) => some o.toP
    | some (.val p) => some p
    | _ => none
/-- readable: a value, or an owned object as it stands -/
def Rb (c : Ctx) (F H : Hp) (p : P) (v : V) : Prop := Rp c F p v ∨ ∃ a o, v = .ref a ∧ OwR c F H o a ∧ p = o.toP
section
variable {c : Ctx} {W : WX} {F F' F1 H H' H1 H0 : Hp} {π π' π0 : En} {σ : L2.St} {r : Rs} {v : V} {p : P} {o : O} {a : Addr} {i : Nat} {u : HO}
theorem RR.step (h : RR c π0 H0 F π σ H r v) (t : Tr F π σ H F' π' σ H') : RR c π0 H0 F' π' σ H' r v := by
  cases r with
  | val p => exact Rp.mono t.le _ _ h
  | bor i => exact h
  | own o =>
    obtain ⟨a, e, h1, h2, h3, h4⟩ := h
    obtain ⟨u, hu⟩ := h3.there
    refine ⟨a, e, ?_, fun z => ?_, h3.step t.le (fun u' q => t.keep a u' q h2), h4⟩
    · cases q : F' a with
      | none => rfl
      | some x =>
        rcases t.new a (by rw [q]; exact fun z => nomatch z) with z | z | z
        · exact absurd h1 z
        · rw [hu] at z; cases z
        · exact absurd z h2
    · rcases t.own a z with q | q
      · rw [hu] at q; cases q
      · exact h2 q
theorem RR.base {Fz : Hp} (h : RR c π0 H0 F π σ H r v) (t : Tr Fz π' σ H' F1 π0 σ H0) : RR c π' H' F π σ H r v := by
  cases r with
  | val p => exact h
  | bor i => exact h
  | own o =>
    obtain ⟨a, e, h1, h2, h3, h4⟩ := h
    exact ⟨a, e, h1, h2, h3, h4.back t⟩
theorem RR.rb (s : SR c F π σ H) (h : RR c π0 H0 F π σ H r v) (e : rdP π r = some p) : Rb c F H p v := by
  cases r with
  | val q =>
    have e' : q = p := Option.some.inj e
    subst e'
    exact .inl h
  | own o =>
    have e' : o.toP = p := Option.some.inj e
    obtain ⟨a, e2, h1, h2, h3, h4⟩ := h
    exact .inr ⟨a, o, e2, h3, e'.symm⟩
  | bor i =>
    simp only [rdP] at e
    have h' : σ[i]? = some (some v) := h
    cases q : π[i]? with
    | none => rw [q] at e; cases e
    | some sl =>
      rw [q] at e
      cases sl with
      | no => cases e
      | val p' =>
        have e' : p' = p := Option.some.inj e
        subst e'
        obtain ⟨v', e1, h1⟩ := s.vl i p' q
        rw [h'] at e1
        have e3 : v = v' := Option.some.inj (Option.some.inj e1)
        subst e3
        exact .inl h1
      | own o =>
        have e' : o.toP = p := Option.some.inj e
        obtain ⟨a, e1, h1, h2⟩ := s.ow i _ o q rfl
        rw [h'] at e1
        exact .inr ⟨a, o, Option.some.inj (Option.some.inj e1), h2, e'.symm⟩
      | loan o =>
        have e' : o.toP = p := Option.some.inj e
        obtain ⟨a, e1, h1, h2⟩ := s.ow i _ o q rfl
        rw [h'] at e1
        exact .inr ⟨a, o, Option.some.inj (Option.some.inj e1), h2, e'.symm⟩
/-- an object that nothing leads to is known from now on -/
theorem SR.grow (s : SR c F π σ H) (hF : F a = none) (hn : ¬ Own π σ a) (hu : H a = some u) : SR c (L2.upd F a u) π σ H where
  le := fun b x e => by
    by_cases z : b = a
    · subst z; rw [upd_same] at e; cases e; exact .inl hu
    · rw [upd_ne z] at e; exact s.le b x e
  len := s.len
  vl := fun i p e => by
    obtain ⟨v, e1, h1⟩ := s.vl i p e
    exact ⟨v, e1, Rp.mono (Le.new u hF) _ _ h1⟩
  ow := fun i sl o e1 e2 => by
    obtain ⟨b, e3, h1, h2⟩ := s.ow i sl o e1 e2
    refine ⟨b, e3, ?_, h2.step (Le.new u hF) fun _ q => q⟩
    rw [upd_ne fun z => ?_]
    · exact h1
    · subst z; exact hn ⟨i, sl, o, e1, e2, e3⟩
  dj := s.dj
theorem Tr.grow (t : Tr F1 π' σ H1 F π σ H) (hF : F a = none) (hf : Fr0 π' σ H1 a) : Tr F1 π' σ H1 (L2.upd F a u) π σ H where
  le := t.le.trans (Le.new u hF)
  keep := t.keep
  new := fun b e => by
    by_cases z : b = a
    · subst z
      exact .inr hf
    · rw [upd_ne z] at e; exact t.new b e
  own := t.own
  ln := t.ln
/-- what slot i owns never changes from now on -/
theorem SR.freeze (s : SR c F π σ H) (hi : π[i]? = some (.own o)) (hσ : σ[i]? = some (some (.ref a))) (hu : H a = some u) :
    SR c (L2.upd F a u) (π.set i (.val o.toP)) σ H ∧ Tr F π σ H (L2.upd F a u) (π.set i (.val o.toP)) σ H ∧ Rp c (L2.upd F a u) o.toP (.ref a) := by
  obtain ⟨b, e1, hF, hO⟩ := s.ow i _ o hi rfl
  rw [hσ] at e1
  have e2 : a = b := by injection Option.some.inj (Option.some.inj e1)
  subst e2
  have hlt : i < π.length := (List.getElem?_eq_some_iff.mp hi).1
  have rp : Rp c (L2.upd F a u) o.toP (.ref a) := hO.rp (Le.new u hF) fun x q => by
    rw [hu] at q; cases q; exact upd_same
  have back : ∀ (j : Nat) (sl : Sl) (o' : O), (π.set i (.val o.toP))[j]? = some sl → sl.ow = some o' → π[j]? = some sl ∧ j ≠ i := fun j sl o' e1 e2 => by
    by_cases z : j = i
    · subst z
      rw [List.getElem?_set_self hlt] at e1
      cases e1
      cases e2
    · rw [List.getElem?_set_ne (Ne.symm z)] at e1
      exact ⟨e1, z⟩
  have own' : ∀ b, Own (π.set i (.val o.toP)) σ b → Own π σ b := fun b ⟨j, sl, o', e1, e2, e3⟩ => ⟨j, sl, o', (back j sl o' e1 e2).1, e2, e3⟩
  refine ⟨⟨?_, by simpa using s.len, ?_, ?_, ?_⟩, ⟨Le.new u hF, fun _ _ h _ => h, fun b e => ?_, fun b h => .inr (own' b h), fun j o' e => ⟨rfl, o', ?_⟩⟩, rp⟩
  · exact fun b x e => by
      by_cases z : b = a
      · subst z; rw [upd_same] at e; cases e; exact .inl hu
      · rw [upd_ne z] at e; exact s.le b x e
  · intro j p e
    by_cases z : j = i
    · subst z
      rw [List.getElem?_set_self hlt] at e
      cases e
      exact ⟨_, hσ, rp⟩
    · rw [List.getElem?_set_ne (Ne.symm z)] at e
      obtain ⟨v, e1, h1⟩ := s.vl j p e
      exact ⟨v, e1, Rp.mono (Le.new u hF) _ _ h1⟩
  · intro j sl o' e1 e2
    obtain ⟨e1', ne⟩ := back j sl o' e1 e2
    obtain ⟨b, e3, h1, h2⟩ := s.ow j sl o' e1' e2
    refine ⟨b, e3, ?_, h2.step (Le.new u hF) fun _ q => q⟩
    rw [upd_ne fun z => ?_]
    · exact h1
    · subst z; exact ne (s.dj j i _ _ o' o _ e1' e2 hi rfl e3 hσ)
  · intro j k sl sl' o1 o2 b e1 e2 e3 e4 e5 e6
    exact s.dj j k sl sl' o1 o2 b (back j sl o1 e1 e2).1 e2 (back k sl' o2 e3 e4).1 e4 e5 e6
  · by_cases z : b = a
    · subst z; exact .inr (.inr ⟨i, _, o, hi, rfl, hσ⟩)
    · rw [upd_ne z] at e; exact .inl e
  · by_cases z : j = i
    · subst z; rw [hi] at e; cases e
    · rw [List.getElem?_set_ne (Ne.symm z)]; exact e
end

/-! ### readings of expressions -/
def tE (c : Ctx) (w : Wi) (f : M Rs) : TE := fun σ H Q => ∃ F π, w.g σ F ∧ SR c F π σ H ∧ Po c w.W F π σ H (f π) (fun r π' F' H' => ∀ v, RR c π H F' π' σ H' r v → Q v H')
/-- as a value -/
def tV (c : Ctx) (w : Wi) (f : M P) : TE := fun σ H Q => ∃ F π, w.g σ F ∧ SR c F π σ H ∧ Po c w.W F π σ H (f π) (fun p π' F' H' => ∀ v, Rp c F' p v → Q v H')
def tT (c : Ctx) (w : Wi) (f : M Bool) : TT := fun σ H Q => ∃ F π, w.g σ F ∧ SR c F π σ H ∧ Po c w.W F π σ H (f π) (fun b π' F' H' => Q b H')
def tAs (c : Ctx) (w : Wi) (f : M (List P)) : TA := fun σ H Q => ∃ F π, w.g σ F ∧ SR c F π σ H ∧ Po c w.W F π σ H (f π) (fun ps π' F' H' => ∀ vs, Rps c F' ps vs → Q vs H')
/-- a result is taken: from now on it never changes -/
def takeR (r : Rs) : M P := fun π => match r with
  | .val p => .ok p π
  | .own o => .ok o.toP π
  | .bor i => match π[i]? with
    | some (.own o) => .ok o.toP (π.set i (.val o.toP))
    | some (.val p) => .ok p π
    | _ => .bad
def takeF (f : M Rs) : M P := fun π => (f π).bind takeR
theorem tE_of_tV {c : Ctx} {w : Wi} {f : M Rs} {σ : L2.St} {H : Hp} {Q : VK} (h : tV c w (takeF f) σ H Q) : tE c w f σ H Q := by
  obtain ⟨F, π, g, s, po⟩ := h
  refine ⟨F, π, g, s, ?_⟩
  unfold takeF at po
  cases e : f π with
  | bad => rw [e] at po; exact po
  | exc C ps π1 => rw [e] at po; exact po
  | ok r π1 =>
    rw [e] at po
    intro F1 H1 t s1 v hr
    cases r with
    | val p => exact po F1 H1 t s1 v hr
    | own o =>
      obtain ⟨a, rfl, h1, h2, h3, h4⟩ := hr
      obtain ⟨u, hu⟩ := h3.there
      exact po (L2.upd F1 a u) H1 (t.grow h1 h4) (s1.grow h1 h2 hu) _ (h3.rp (Le.new u h1) fun x q => by rw [hu] at q; cases q; exact upd_same)
    | bor i =>
      have hr' : σ[i]? = some (some v) := hr
      simp only [Out.bind, takeR] at po
      cases q : π1[i]? with
      | none => rw [q] at po; exact po.elim
      | some sl =>
        rw [q] at po
        cases sl with
        | no => exact po.elim
        | loan o => exact po.elim
        | val p =>
          obtain ⟨v', e1, h1⟩ := s1.vl i p q
          rw [hr'] at e1
          have e3 : v = v' := Option.some.inj (Option.some.inj e1)
          subst e3
          exact po F1 H1 t s1 v h1
        | own o =>
          obtain ⟨a, e1, h1, h2⟩ := s1.ow i _ o q rfl
          rw [hr'] at e1
          have e3 : v = .ref a := Option.some.inj (Option.some.inj e1)
          subst e3
          obtain ⟨u, hu⟩ := h2.there
          obtain ⟨s2, t2, rp⟩ := s1.freeze q hr' hu
          exact po _ H1 (t.trans t2) s2 _ rp
theorem pe_weak {X : Cx} {e : Expr} {t t' : TE} (h : PE X e t) (k : ∀ σ H Q, t' σ H Q → t σ H Q) : PE X e t' := ⟨fun pins s σ H Q I q => h.run pins s σ H Q I (k _ _ _ q)⟩
theorem pt_weak {X : Cx} {e : Expr} {t t' : TT} (h : PT X e t) (k : ∀ σ H Q, t' σ H Q → t σ H Q) : PT X e t' := ⟨fun pins s σ H Q I q => h.run pins s σ H Q I (k _ _ _ q)⟩
theorem pa_weak {X : Cx} {e : List Expr} {t t' : TA} (h : PA X e t) (k : ∀ σ H Q, t' σ H Q → t σ H Q) : PA X e t' := ⟨fun pos pins s σ H Q I q => h.run pos pins s σ H Q I (k _ _ _ q)⟩
theorem ps_weak {X : Cx} {e : Stmt} {t t' : TS} (h : PS X e t) (k : ∀ D σ H, t' D σ H → t D σ H) : PS X e t' := ⟨fun pins s σ H Q I q => h.run pins s σ H Q I (k _ _ _ q)⟩
theorem pss_weak {X : Cx} {e : List Stmt} {t t' : TS} (h : PSs X e t) (k : ∀ D σ H, t' D σ H → t D σ H) : PSs X e t' := ⟨fun pins s σ H Q I q => h.run pins s σ H Q I (k _ _ _ q)⟩
section
variable {X : Cx} {c : Ctx} {w : Wi} {e : Expr} {pos : Pos} {f : M Rs}
/-- e, taken -/
theorem p_take (h : PE X e (tE c w f)) : PE X e (tV c w (takeF f)) := pe_weak h fun _ _ _ => tE_of_tV
/-- a value is a result -/
def valF (f : M P) : M Rs := fun π => (f π).bind fun p π' => .ok (.val p) π'
theorem p_val {f : M P} (h : PE X e (tV c w f)) : PE X e (tE c w (valF f)) := pe_weak h fun σ H Q ⟨F, π, g, s, po⟩ =>
  ⟨F, π, g, s, (Po.split po).mono fun p π1 F1 H1 t s1 p1 v hr => p1 F1 H1 .refl s1 v hr⟩
/-- names -/
def varF (i : Nat) : M Rs := fun π => match π[i]? with
  | some (.val p) => .ok (.val p) π
  | some (.own _) => .ok (.bor i) π
  | some (.loan _) => .ok (.bor i) π
  | _ => .bad
theorem p_var {x : Str} (i : Nat) (hN : X.N[i]? = some x := by rfl) (hv : Vis X.env.scope x := by first | exact Or.inl rfl | exact Or.inr (Or.inl rfl) | exact Or.inr (Or.inr rfl)) (hd : (x == ("__debug__" : Str)) = false := by decide)
    (hcd : (x == ("__classdict__" : Str)) = false := by decide) : PE X (.Name x pos) (tE c w (varF i)) := pe_weak (pe_var hN hv hd hcd) fun σ H Q ⟨F, π, g, s, po⟩ => by
  simp only [varF] at po
  cases q : π[i]? with
  | none => rw [q] at po; exact po.elim
  | some sl =>
    rw [q] at po
    cases sl with
    | no => exact po.elim
    | val p =>
      obtain ⟨v, e1, h1⟩ := s.vl i p q
      exact ⟨v, e1, po F H .refl s v h1⟩
    | own o =>
      obtain ⟨a, e1, h1⟩ := s.ow i _ o q rfl
      exact ⟨_, e1, po F H .refl s _ e1⟩
    | loan o =>
      obtain ⟨a, e1, h1⟩ := s.ow i _ o q rfl
      exact ⟨_, e1, po F H .refl s _ e1⟩
/-- constants -/
def cF (p : P) : M Rs := fun π => .ok (.val p) π
theorem tC_of {p : P} {v : V} (h : ∀ F, Rp c F p v) : ∀ σ H Q, tE c w (cF p) σ H Q → tC v σ H Q := fun σ H Q ⟨F, π, g, s, po⟩ => po F H .refl s v (h F)
theorem p_int {i : Int} {j} : PE X (.Constant (.int i) j pos) (tE c w (cF (.int i))) := pe_weak pe_int (tC_of fun _ => mk_int)
theorem p_bl {b : Bool} {j} : PE X (.Constant (.bool b) j pos) (tE c w (cF (.bl b))) := pe_weak pe_bl (tC_of fun _ => mk_bl)
theorem p_non {j} : PE X (.Constant .none j pos) (tE c w (cF .non)) := pe_weak pe_non (tC_of fun _ => mk_non)
theorem p_str {x : Str} {j} : PE X (.Constant (.str x) j pos) (tE c w (cF (.str x))) := pe_weak pe_str (tC_of fun _ => mk_str)
end
end PV

namespace PV
open PySem L2

/-! ### operations on values that change nothing but make new objects -/
/-- F and H grow by new objects -/
structure Gr (F H F' H' : Hp) : Prop where
  le : Le F F'
  le' : Le F' H'
  keep : ∀ a o, H a = some o → H' a = some o
  new : ∀ a, F' a ≠ none → F a ≠ none ∨ H a = none
/-- a new result -/
def RN (c : Ctx) (H F' H' : Hp) : Rv → V → Prop
  | .val p, v => Rp c F' p v
  | .own o, v => ∃ a, v = .ref a ∧ H a = none ∧ F' a = none ∧ OwR c F' H' o a
section
variable {c : Ctx} {w : Wi} {W : WX} {F F' F1 H H' H1 H0 : Hp} {π π' π0 : En} {σ : L2.St} {r : Rs} {rv : Rv} {v : V} {p : P} {o : O} {a : Addr} {i : Nat} {u : HO}
theorem Gr.refl (l : Le F H) : Gr F H F H := ⟨Le.refl F, l, fun _ _ h => h, fun _ h => .inl h⟩
theorem Gr.tr (g : Gr F H F' H') : Tr F π σ H F' π σ H' := ⟨g.le, fun a o h _ => g.keep a o h, fun a h => (g.new a h).imp id .inl, fun a h => .inr h, fun i o h => ⟨rfl, o, h⟩⟩
theorem Gr.sr (g : Gr F H F' H') (s : SR c F π σ H) : SR c F' π σ H' where
  le := g.le'
  len := s.len
  vl := fun i p e => by
    obtain ⟨v, e1, h1⟩ := s.vl i p e
    exact ⟨v, e1, Rp.mono g.le _ _ h1⟩
  ow := fun i sl o e1 e2 => by
    obtain ⟨b, e3, h1, h2⟩ := s.ow i sl o e1 e2
    refine ⟨b, e3, ?_, h2.step g.le fun u q => g.keep b u q⟩
    cases q : F' b with
    | none => rfl
    | some x =>
      rcases g.new b (by rw [q]; exact fun z => nomatch z) with z | z
      · exact absurd h1 z
      · obtain ⟨u, hu⟩ := h2.there
        rw [hu] at z; cases z
  dj := s.dj
theorem own_some (s : SR c F π σ H) (h : Own π σ a) : ∃ u, H a = some u := by
  obtain ⟨i, sl, o, e1, e2, e3⟩ := h
  obtain ⟨b, e4, _, h2⟩ := s.ow i sl o e1 e2
  rw [e3] at e4
  have e5 : a = b := by injection Option.some.inj (Option.some.inj e4)
  subst e5
  exact h2.there
def Rv.rs : Rv → Rs
  | .val p => .val p
  | .own o => .own o
theorem RN.rr (s : SR c F π σ H) (g : Gr F H F' H') (h : RN c H F' H' rv v) : RR c π H F' π σ H' rv.rs v := by
  cases rv with
  | val p => exact h
  | own o =>
    obtain ⟨a, e, h1, h2, h3⟩ := h
    refine ⟨a, e, h2, fun z => ?_, h3, .inl h1⟩
    obtain ⟨u, hu⟩ := own_some s z
    rw [hu] at h1; cases h1
/-- a new tuple, list -/
theorem gr_tup {vs : List V} (l : Le F H) (h : H a = none) : Gr F H (L2.upd F a (.tup vs)) (L2.upd H a (.tup vs)) :=
  ⟨Le.new _ (l.gone h), l.upd _ _, fun b o e => by rw [upd_ne (ne_of_none e h)]; exact e, fun b e => by
    by_cases z : b = a
    · subst z; exact .inr h
    · rw [upd_ne z] at e; exact .inl e⟩
theorem gr_lst (l : Le F H) (h : H a = none) : Gr F H F (L2.upd H a u) :=
  ⟨Le.refl F, l.updR _ (l.gone h), fun b o e => by rw [upd_ne (ne_of_none e h)]; exact e, fun b e => .inl e⟩
theorem rn_tup {ps : List P} {vs : List V} (l : Le F H) (h : H a = none) (r : Rps c F ps vs) : RN c H (L2.upd F a (.tup vs)) (L2.upd H a (.tup vs)) (.val (.tup ps)) (.ref a) :=
  mk_tup upd_same (Rps.mono (Le.new _ (l.gone h)) _ _ r)
theorem rn_lst {ps : List P} {vs : List V} (l : Le F H) (h : H a = none) (r : Rps c F ps vs) : RN c H F (L2.upd H a (.lst vs)) (.own (.lst ps)) (.ref a) :=
  ⟨a, rfl, h, l.gone h, vs, upd_same, r⟩
/-- readable lists, tuples -/
theorem Rb.lst {ps : List P} (l : Le F H) (h : Rb c F H (.lst ps) v) : ∃ a vs, v = .ref a ∧ H a = some (.lst vs) ∧ Rps c F ps vs := by
  rcases h with h | ⟨a, o, e, h1, h2⟩
  · obtain ⟨a, vs, e, h1, h2⟩ := rp_lst h
    exact ⟨a, vs, e, l.lst h1, h2⟩
  · cases o with
    | lst qs =>
      cases h2
      obtain ⟨vs, h1, h3⟩ := h1
      exact ⟨a, vs, e, h1, h3⟩
    | dct t ks ws => cases h2
    | obj C ps => cases h2
theorem Rb.tup {ps : List P} (l : Le F H) (h : Rb c F H (.tup ps) v) : ∃ a vs, v = .ref a ∧ SqT c.K H a vs ∧ Rps c F ps vs ∧ Rp c F (.tup ps) v := by
  rcases h with h | ⟨a, o, e, h1, h2⟩
  · obtain ⟨a, vs, e, h1, h2⟩ := rp_tup h
    exact ⟨a, vs, e, l.sqT h1, h2, h⟩
  · cases o <;> cases h2
theorem rp_nt {ps : List P} (h : Rp c H (.nt ps) v) : ∃ a o vs, v = .ref a ∧ o.dict = none ∧ H a = some (.frz o (.tup vs)) ∧ Rps c H ps vs := by unfold Rp at h; exact h
theorem mk_nt {ps : List P} {vs : List V} {ob : Obj} (hd : ob.dict = none) (h : H a = some (.frz ob (.tup vs))) (r : Rps c H ps vs) : Rp c H (.nt ps) (.ref a) := by unfold Rp; exact ⟨a, ob, vs, rfl, hd, h, r⟩
theorem Rb.nt {ps : List P} (l : Le F H) (h : Rb c F H (.nt ps) v) : ∃ a o vs, v = .ref a ∧ o.dict = none ∧ H a = some (.frz o (.tup vs)) ∧ Rps c F ps vs ∧ Rp c F (.nt ps) v := by
  rcases h with h | ⟨a, o, e, h1, h2⟩
  · obtain ⟨a, o, vs, e, hd, h1, h2⟩ := rp_nt h
    exact ⟨a, o, vs, e, hd, l.frzT h1, h2, h⟩
  · cases o <;> cases h2
theorem Rb.int {i : Int} (h : Rb c F H (.int i) v) : v = .int i := by
  rcases h with h | ⟨a, o, e, h1, h2⟩
  · exact rp_int h
  · cases o <;> cases h2
theorem Rb.bl {i : Bool} (h : Rb c F H (.bl i) v) : v = .bl i := by
  rcases h with h | ⟨a, o, e, h1, h2⟩
  · exact rp_bl h
  · cases o <;> cases h2
theorem Rb.str {i : Str} (h : Rb c F H (.str i) v) : v = .str i := by
  rcases h with h | ⟨a, o, e, h1, h2⟩
  · exact rp_str h
  · cases o <;> cases h2
theorem Rb.non (h : Rb c F H .non v) : v = .non := by
  rcases h with h | ⟨a, o, e, h1, h2⟩
  · exact rp_non h
  · cases o <;> cases h2
theorem Rb.rpH (l : Le F H) (h : Rb c F H p v) : Rp c H p v := by
  rcases h with h | ⟨a, o, e, h1, h2⟩
  · exact Rp.mono l _ _ h
  · subst e; subst h2
    exact h1.rp l fun _ q => q
end

/-- o of two values, by the rule r -/
def OpV (c : Ctx) (r : R2) (o : P → P → Option Rv) : Prop := ∀ (F H : Hp) (p1 p2 : P) (x y : V) (res : Rv) (Q : VK), Le F H → Rb c F H p1 x → Rb c F H p2 y → o p1 p2 = some res →
  (∀ v F' H', Gr F H F' H' → RN c H F' H' res v → Q v H') → r x y H Q
def UnV (c : Ctx) (r : V → Hp → VK → Prop) (o : P → Option Rv) : Prop := ∀ (F H : Hp) (p : P) (x : V) (res : Rv) (Q : VK), Le F H → Rb c F H p x → o p = some res →
  (∀ v F' H', Gr F H F' H' → RN c H F' H' res v → Q v H') → r x H Q
def Rbs (c : Ctx) (F H : Hp) : List P → List V → Prop
  | [], vs => vs = []
  | p :: ps, vs => ∃ v r, vs = v :: r ∧ Rb c F H p v ∧ Rbs c F H ps r
def CalV (c : Ctx) (r : List V → Hp → VK → Prop) (o : List P → Option Rv) : Prop := ∀ (F H : Hp) (ps : List P) (xs : List V) (res : Rv) (Q : VK), Le F H → Rbs c F H ps xs → o ps = some res →
  (∀ v F' H', Gr F H F' H' → RN c H F' H' res v → Q v H') → r xs H Q

def outR (o : Option Rv) : M Rs := fun π => match o with
  | some res => .ok res.rs π
  | none => .bad
def op2 (o : P → P → Option Rv) (r1 r2 : Rs) : M Rs := fun π => match rdP π r1, rdP π r2 with
  | some p1, some p2 => outR (o p1 p2) π
  | _, _ => .bad
def op1 (o : P → Option Rv) (r1 : Rs) : M Rs := fun π => match rdP π r1 with
  | some p1 => outR (o p1) π
  | _ => .bad
def rds (π : En) : List Rs → Option (List P)
  | [] => some []
  | r :: rs => match rdP π r, rds π rs with
    | some p, some ps => some (p :: ps)
    | _, _ => none
def opN (o : List P → Option Rv) (rs : List Rs) : M Rs := fun π => match rds π rs with
  | some ps => outR (o ps) π
  | none => .bad
def binF (o : P → P → Option Rv) (f g : M Rs) : M Rs := fun π => (f π).bind fun r1 π1 => (g π1).bind fun r2 => op2 o r1 r2
def unF (o : P → Option Rv) (f : M Rs) : M Rs := fun π => (f π).bind fun r1 => op1 o r1
/-- an argument list, as it is read -/
def RRs (c : Ctx) (π0 : En) (H0 F : Hp) (π : En) (σ : L2.St) (H : Hp) : List Rs → List V → Prop
  | [], vs => vs = []
  | r :: rs, vs => ∃ v t, vs = v :: t ∧ RR c π0 H0 F π σ H r v ∧ RRs c π0 H0 F π σ H rs t
def tR (c : Ctx) (w : Wi) (f : M (List Rs)) : TA := fun σ H Q => ∃ F π, w.g σ F ∧ SR c F π σ H ∧ Po c w.W F π σ H (f π) (fun rs π' F' H' => ∀ vs, RRs c π H F' π' σ H' rs vs → Q vs H')
def nilF : M (List Rs) := fun π => .ok [] π
def consF (f : M Rs) (g : M (List Rs)) : M (List Rs) := fun π => (f π).bind fun r π1 => (g π1).bind fun rs π2 => .ok (r :: rs) π2
def calF (o : List P → Option Rv) (f : M (List Rs)) : M Rs := fun π => (f π).bind fun rs => opN o rs

section
variable {c : Ctx} {w : Wi} {W : WX} {F F' F1 H H' H1 H0 : Hp} {π π' π0 : En} {σ : L2.St} {r : Rs} {rs : List Rs} {rv : Rv} {v : V} {p : P} {o : O} {a : Addr} {i : Nat} {u : HO} {vs : List V} {ps : List P}
theorem RRs.step : ∀ {rs : List Rs} {vs : List V}, RRs c π0 H0 F π σ H rs vs → Tr F π σ H F' π' σ H' → RRs c π0 H0 F' π' σ H' rs vs
  | [], _, h, _ => h
  | r :: rs, _, h, t => by
    obtain ⟨v, l, e, h1, h2⟩ := h
    exact ⟨v, l, e, h1.step t, h2.step t⟩
theorem RRs.base {Fz : Hp} : ∀ {rs : List Rs} {vs : List V}, RRs c π0 H0 F π σ H rs vs → Tr Fz π' σ H' F1 π0 σ H0 → RRs c π' H' F π σ H rs vs
  | [], _, h, _ => h
  | r :: rs, _, h, t => by
    obtain ⟨v, l, e, h1, h2⟩ := h
    exact ⟨v, l, e, h1.base t, h2.base t⟩
theorem RRs.rbs (s : SR c F π σ H) : ∀ {rs : List Rs} {vs : List V} {ps : List P}, RRs c π0 H0 F π σ H rs vs → rds π rs = some ps → Rbs c F H ps vs
  | [], _, _, h, e => by cases e; exact h
  | r :: rs, _, _, h, e => by
    obtain ⟨v, l, e1, h1, h2⟩ := h
    unfold rds at e
    cases e2 : rdP π r with
    | none => rw [e2] at e; cases e
    | some p =>
      cases e3 : rds π rs with
      | none => rw [e2, e3] at e; cases e
      | some qs =>
        rw [e2, e3] at e
        cases e
        exact ⟨v, l, e1, h1.rb s e2, h2.rbs s e3⟩
theorem outR_post {res : Option Rv} {K : Rs → En → Hp → Hp → Prop} (s : SR c F π σ H) (po : Po c W F π σ H (outR res π) K) : ∃ rv, res = some rv ∧ ∀ v F' H', Gr F H F' H' → RN c H F' H' rv v → K rv.rs π F' H' ∧ RR c π H F' π σ H' rv.rs v := by
  cases res with
  | none => exact po.elim
  | some rv => exact ⟨rv, rfl, fun v F' H' g h => ⟨po F' H' g.tr (g.sr s), h.rr s g⟩⟩
end

section
variable {X : Cx} {c : Ctx} {w : Wi} {a b : Expr} {es : List Expr} {pos : Pos} {f g : M Rs} {fs : M (List Rs)}
theorem bin_weak {r : R2} {o : P → P → Option Rv} (hv : OpV c r o) : ∀ σ H Q, tE c w (binF o f g) σ H Q → tOp r (tE c w f) (tE c w g) σ H Q := fun σ H Q ⟨F, π, gg, s, po⟩ => by
  refine ⟨F, π, gg, s, (Po.split po).mono fun r1 π1 F1 H1 t1 s1 p1 x hx => ⟨F1, π1, w.mono _ _ t1.le gg, s1, (Po.split p1).mono fun r2 π2 F2 H2 t2 s2 p2 y hy => ?_⟩⟩
  unfold op2 at p2
  cases e1 : rdP π2 r1 with
  | none => rw [e1] at p2; exact p2.elim
  | some q1 =>
    cases e2 : rdP π2 r2 with
    | none => rw [e1, e2] at p2; exact p2.elim
    | some q2 =>
      rw [e1, e2] at p2
      obtain ⟨rv, e3, k⟩ := outR_post s2 p2
      refine hv F2 H2 q1 q2 x y rv Q s2.le ((hx.step t2).rb s2 e1) (hy.rb s2 e2) e3 fun v F3 H3 gr rn => ?_
      obtain ⟨k1, k2⟩ := k v F3 H3 gr rn
      exact k1 v (k2.base (t1.trans t2))
theorem p_bin {op : Operator} {r : R2} {o : P → P → Option Rv} (hop : OpR X (binaryOp op) r) (hv : OpV c r o) (ha : PE X a (tE c w f)) (hb : PE X b (tE c w g)) : PE X (.BinOp a op b pos) (tE c w (binF o f g)) :=
  pe_weak (pe_op hop ha hb) (bin_weak hv)
theorem p_cmp {op : CmpOp} {r : R2} {o : P → P → Option Rv} (hop : OpR X (compareOp op) r) (hv : OpV c r o) (ha : PE X a (tE c w f)) (hb : PE X b (tE c w g)) (hm : behindInMarks op b = false) : PE X (.Compare a [op] [b] pos) (tE c w (binF o f g)) :=
  pe_weak (pe_cmpR hop ha hb hm) (bin_weak hv)
theorem p_ix {r : R2} {o : P → P → Option Rv} (hop : IxR X r) (hv : OpV c r o) (ha : PE X a (tE c w f)) (hb : PE X b (tE c w g)) (hs : PlainIx b) : PE X (.Subscript a b pos) (tE c w (binF o f g)) :=
  pe_weak (pe_ix hop ha hb hs) (bin_weak hv)
theorem p_un {op : UnaryOp} {r : V → Hp → VK → Prop} {o : P → Option Rv} (hop : UnR X (unaryOp op) r) (hv : UnV c r o) (ha : PE X a (tE c w f)) : PE X (.UnaryOp op a pos) (tE c w (unF o f)) :=
  pe_weak (pe_un hop ha) fun σ H Q ⟨F, π, gg, s, po⟩ => by
    refine ⟨F, π, gg, s, (Po.split po).mono fun r1 π1 F1 H1 t1 s1 p1 x hx => ?_⟩
    unfold op1 at p1
    cases e1 : rdP π1 r1 with
    | none => rw [e1] at p1; exact p1.elim
    | some q1 =>
      rw [e1] at p1
      obtain ⟨rv, e3, k⟩ := outR_post s1 p1
      refine hv F1 H1 q1 x rv Q s1.le (hx.rb s1 e1) e3 fun v F3 H3 gr rn => ?_
      obtain ⟨k1, k2⟩ := k v F3 H3 gr rn
      exact k1 v (k2.base t1)
theorem pr_nil : PA X [] (tR c w nilF) := pa_weak pa_nil fun σ H Q ⟨F, π, gg, s, po⟩ => po F H .refl s [] rfl
theorem pr_cons (ha : PE X a (tE c w f)) (hr : PA X es (tR c w fs)) (hs : starEach (a :: es) X.env = (false, eval a X.env) :: starEach es X.env := by rfl) : PA X (a :: es) (tR c w (consF f fs)) :=
  pa_weak (pa_cons ha hr hs) fun σ H Q ⟨F, π, gg, s, po⟩ => by
    refine ⟨F, π, gg, s, (Po.split po).mono fun r1 π1 F1 H1 t1 s1 p1 x hx => ⟨F1, π1, w.mono _ _ t1.le gg, s1, (Po.split p1).mono fun rs π2 F2 H2 t2 s2 p2 xs hxs => ?_⟩⟩
    exact p2 F2 H2 .refl s2 (x :: xs) ⟨x, xs, rfl, hx.step t2, hxs.base t1⟩
theorem cal_weak {r : List V → Hp → VK → Prop} {o : List P → Option Rv} (hv : CalV c r o) : ∀ σ H Q, tE c w (calF o fs) σ H Q → tCB r (tR c w fs) σ H Q := fun σ H Q ⟨F, π, gg, s, po⟩ => by
  refine ⟨F, π, gg, s, (Po.split po).mono fun rs π1 F1 H1 t1 s1 p1 xs hx => ?_⟩
  unfold opN at p1
  cases e1 : rds π1 rs with
  | none => rw [e1] at p1; exact p1.elim
  | some qs =>
    rw [e1] at p1
    obtain ⟨rv, e3, k⟩ := outR_post s1 p1
    refine hv F1 H1 qs xs rv Q s1.le (hx.rbs s1 e1) e3 fun v F3 H3 gr rn => ?_
    obtain ⟨k1, k2⟩ := k v F3 H3 gr rn
    exact k1 v (k2.base t1)
end
end PV

namespace PV
open PySem L2

/-! ### statements -/
inductive Fl where
  | nx | bk | ct | rt (r : Rv)
def PoS {α : Type} (c : Ctx) (W : WX) (F : Hp) (π : En) (σ : L2.St) (H : Hp) (o : Out α) (K : α → En → Hp → L2.St → Hp → Prop) : Prop := match o with
  | .ok a π' => ∀ F' σ' H', Tr F π σ H F' π' σ' H' → SR c F' π' σ' H' → K a π' F' σ' H'
  | .exc C ps π' => ∀ F' σ' H' d, Tr F π σ H F' π' σ' H' → SR c F' π' σ' H' → XdOk c F' C ps d → W (.ref (c.cls C)) d σ' H'
  | .bad => False
/-- a result that is handed back -/
def RC (c : Ctx) (π0 : En) (σ0 : L2.St) (H0 F : Hp) (π : En) (σ : L2.St) (H : Hp) : Rv → V → Prop
  | .val p, v => Rp c F p v
  | .own o, v => ∃ a, v = .ref a ∧ F a = none ∧ ¬ Lent π σ a ∧ OwR c F H o a ∧ Fr0 π0 σ0 H0 a
def flK (c : Ctx) (D : Ends) (π0 : En) (σ0 : L2.St) (H0 : Hp) : Fl → En → Hp → L2.St → Hp → Prop
  | .nx, _, _, σ', H' => D.nx σ' H'
  | .bk, _, _, σ', H' => D.bk σ' H'
  | .ct, _, _, σ', H' => D.ct σ' H'
  | .rt r, π', F', σ', H' => ∀ v, RC c π0 σ0 H0 F' π' σ' H' r v → D.rt v H'
def tS (c : Ctx) (w : Ws) (f : M Fl) : TS := fun D σ H => ∃ F π, w.g F ∧ SR c F π σ H ∧ PoS c w.W F π σ H (f π) (flK c D π σ H)
section
variable {α β : Type} {c : Ctx} {W : WX} {F F1 F' H H1 H' : Hp} {π π1 π' : En} {σ σ1 σ' : L2.St} {o : Out α} {K K' : α → En → Hp → L2.St → Hp → Prop} {J : β → En → Hp → L2.St → Hp → Prop} {r : Rv} {v : V} {fl : Fl} {D : Ends}
theorem PoS.mono (h : PoS c W F π σ H o K) (k : ∀ a π' F' σ' H', Tr F π σ H F' π' σ' H' → SR c F' π' σ' H' → K a π' F' σ' H' → K' a π' F' σ' H') : PoS c W F π σ H o K' := by
  cases o with
  | ok a π' => exact fun F' σ' H' t s => k a π' F' σ' H' t s (h F' σ' H' t s)
  | exc C ps π' => exact h
  | bad => exact h
theorem PoS.from (h : PoS c W F π σ H o K) (t : Tr F π σ H F1 π1 σ1 H1) : PoS c W F1 π1 σ1 H1 o K := by
  cases o with
  | ok a π' => exact fun F' σ' H' t' s => h F' σ' H' (t.trans t') s
  | exc C ps π' => exact fun F' σ' H' d t' s => h F' σ' H' d (t.trans t') s
  | bad => exact h
/-- an expression, then a statement's part -/
theorem PoS.split {f : α → M β} (h : PoS c W F π σ H (o.bind f) J) : Po c W F π σ H o (fun a π1 F1 H1 => PoS c W F1 π1 σ H1 (f a π1) J) := by
  cases o with
  | ok a π' => exact fun F' H' t s => PoS.from h t
  | exc C ps π' => exact fun F' H' d t s => h F' σ H' d t s
  | bad => exact h
theorem PoS.splitS {f : α → M β} (h : PoS c W F π σ H (o.bind f) J) : PoS c W F π σ H o (fun a π1 F1 σ1 H1 => PoS c W F1 π1 σ1 H1 (f a π1) J) := by
  cases o with
  | ok a π' => exact fun F' σ' H' t s => PoS.from h t
  | exc C ps π' => exact h
  | bad => exact h
theorem RC.base {Fz : Hp} {π0 : En} {σ0 : L2.St} {H0 : Hp} (h : RC c π0 σ0 H0 F π σ H r v) (t : Tr Fz π' σ' H' F1 π0 σ0 H0) : RC c π' σ' H' F π σ H r v := by
  cases r with
  | val p => exact h
  | own o =>
    obtain ⟨a, e, h1, h2, h3, h4⟩ := h
    exact ⟨a, e, h1, h2, h3, h4.back t⟩
theorem flK.base {Fz : Hp} {π0 : En} {σ0 : L2.St} {H0 : Hp} (h : flK c D π' σ' H' fl π F σ H) (t : Tr Fz π' σ' H' F1 π0 σ0 H0) : flK c D π0 σ0 H0 fl π F σ H := by
  cases fl with
  | rt r => exact fun v q => h v (q.base t)
  | _ => exact h
end
def seqF (f g : M Fl) : M Fl := fun π => (f π).bind fun fl π1 => match fl with
  | .nx => g π1
  | fl => .ok fl π1
def skipF : M Fl := fun π => .ok .nx π
section
variable {X : Cx} {c : Ctx} {w : Ws} {st : Stmt} {rest body orelse : List Stmt} {e : Expr} {pos : Pos} {f g : M Fl} {fe : M Rs} {ft : M Bool}
theorem s_nil : PSs X [] (tS c w skipF) := pss_weak pss_nil fun D σ H ⟨F, π, gg, s, po⟩ => po F σ H .refl s
theorem s_cons (h1 : PS X st (tS c w f)) (h2 : PSs X rest (tS c w g)) : PSs X (st :: rest) (tS c w (seqF f g)) := pss_weak (pss_cons h1 h2) fun D σ H ⟨F, π, gg, s, po⟩ => by
  refine ⟨F, π, gg, s, (PoS.splitS po).mono fun fl π1 F1 σ1 H1 t s1 p1 => ?_⟩
  cases fl with
  | nx => exact ⟨F1, π1, w.mono _ _ t.le gg, s1, p1.mono fun fl π2 F2 σ2 H2 t2 s2 k => k.base t⟩
  | bk => exact p1 F1 σ1 H1 .refl s1
  | ct => exact p1 F1 σ1 H1 .refl s1
  | rt r => exact p1 F1 σ1 H1 .refl s1
theorem s_one (h1 : PS X st (tS c w f)) : PSs X [st] (tS c w f) := pss_weak (pss_one h1) fun D σ H h => h
theorem s_pass : PS X (.Pass pos) (tS c w skipF) := ps_weak ps_pass fun D σ H ⟨F, π, gg, s, po⟩ => po F σ H .refl s
/-! if -/
def ifF (ft : M Bool) (f g : M Fl) : M Fl := fun π => (ft π).bind fun b π1 => if b = true then f π1 else g π1
theorem s_if {cnd : Expr} (hc : PT X cnd (tT c w ft)) (ha : PSs X body (tS c w f)) (hb : PSs X orelse (tS c w g)) : PS X (.If cnd body orelse pos) (tS c w (ifF ft f g)) :=
  ps_weak (ps_if hc ha hb) fun D σ H ⟨F, π, gg, s, po⟩ => by
    refine ⟨F, π, gg, s, (PoS.split po).mono fun b π1 F1 H1 t s1 p1 => ?_⟩
    cases b with
    | true => exact ⟨F1, π1, w.mono _ _ t.le gg, s1, PoS.mono p1 fun fl π2 F2 σ2 H2 t2 s2 k => k.base t⟩
    | false => exact ⟨F1, π1, w.mono _ _ t.le gg, s1, PoS.mono p1 fun fl π2 F2 σ2 H2 t2 s2 k => k.base t⟩
/-! an expression dropped -/
def dropF (fe : M Rs) : M Fl := fun π => (fe π).bind fun _ π1 => .ok .nx π1
theorem s_expr (he : PE X e (tE c w fe)) (hs : swapsWith e none pos.line X.env = pure false := by rfl) : PS X (.Expr e pos) (tS c w (dropF fe)) :=
  ps_weak (ps_expr he hs) fun D σ H ⟨F, π, gg, s, po⟩ => ⟨F, π, gg, s, (PoS.split po).mono fun r π1 F1 H1 t s1 p1 v hr => p1 F1 σ H1 .refl s1⟩
/-! return -/
def retR (r : Rs) : M Fl := fun π => match r with
  | .val p => .ok (.rt (.val p)) π
  | .own o => .ok (.rt (.own o)) π
  | .bor i => match π[i]? with
    | some (.own o) => .ok (.rt (.own o)) π
    | some (.val p) => .ok (.rt (.val p)) π
    | _ => .bad
def retF (fe : M Rs) : M Fl := fun π => (fe π).bind retR
theorem lent_own {F H : Hp} {π : En} {σ : L2.St} {i : Nat} {o : O} {a : Addr} (s : SR c F π σ H) (h : π[i]? = some (.own o)) (e : σ[i]? = some (some (.ref a))) : ¬ Lent π σ a := fun ⟨j, o', h1, h2⟩ => by
  have := s.dj i j _ _ o o' a h rfl h1 rfl e h2
  subst this
  rw [h] at h1; cases h1
theorem s_ret (he : PE X e (tE c w fe)) : PS X (.Return (some e) pos) (tS c w (retF fe)) := ps_weak (ps_ret he) fun D σ H ⟨F, π, gg, s, po⟩ => by
  refine ⟨F, π, gg, s, ?_⟩
  unfold retF at po
  cases e0 : fe π with
  | bad => rw [e0] at po; exact po
  | exc C ps π1 => rw [e0] at po; exact fun F' H' d t s => po F' σ H' d t s
  | ok r π1 =>
    rw [e0] at po
    intro F1 H1 t s1 v hr
    cases r with
    | val p => exact po F1 σ H1 t s1 v hr
    | own o =>
      obtain ⟨a, e1, h1, h2, h3, h4⟩ := hr
      exact po F1 σ H1 t s1 v ⟨a, e1, h1, fun z => h2 z.own, h3, h4⟩
    | bor i =>
      have hr' : σ[i]? = some (some v) := hr
      simp only [Out.bind, retR] at po
      cases q : π1[i]? with
      | none => rw [q] at po; exact po.elim
      | some sl =>
        rw [q] at po
        cases sl with
        | no => exact po.elim
        | loan o => exact po.elim
        | val p =>
          obtain ⟨v', e1, h1⟩ := s1.vl i p q
          rw [hr'] at e1
          have e3 : v = v' := Option.some.inj (Option.some.inj e1)
          subst e3
          exact po F1 σ H1 t s1 v h1
        | own o =>
          obtain ⟨a, e1, h1, h2⟩ := s1.ow i _ o q rfl
          rw [hr'] at e1
          have e3 : v = .ref a := Option.some.inj (Option.some.inj e1)
          subst e3
          exact po F1 σ H1 t s1 _ ⟨a, rfl, h1, lent_own s1 q hr', h2, Fr0.back t (.inr ⟨i, _, o, q, rfl, hr'⟩)⟩
def retNF : M Fl := fun π => .ok (.rt (.val .non)) π
theorem s_retN : PS X (.Return none pos) (tS c w retNF) := ps_weak ps_retN fun D σ H ⟨F, π, gg, s, po⟩ => po F σ H .refl s .non (show Rp c F .non .non from mk_non)
end

/-! ### stores to slots -/
section
variable {c : Ctx} {F H : Hp} {π : En} {σ : L2.St} {i : Nat} {p : P} {v : V} {o : O} {a : Addr} {u : HO} {sl : Sl}
/-- slot i no longer matters: it gets the value x -/
theorem SR.set (s : SR c F π σ H) (hi : i < π.length) (hl : ∀ o, π[i]? ≠ some (.loan o)) (new : Sl) (x : Option V)
    (h1 : ∀ p, new = .val p → ∃ v, x = some v ∧ Rp c F p v) (h2 : ∀ o, new.ow = some o → ∃ a, x = some (.ref a) ∧ F a = none ∧ OwR c F H o a ∧ ¬ Own π σ a) (h3 : ∀ o, new ≠ .loan o) :
    SR c F (π.set i new) (σ.set i x) H ∧ ∀ F0 π0 σ0 H0, Tr F0 π0 σ0 H0 F π σ H → (∀ a, x = some (.ref a) → (∃ o, new.ow = some o) → Fr0 π0 σ0 H0 a) → Tr F0 π0 σ0 H0 F (π.set i new) (σ.set i x) H := by
  have hσ : i < σ.length := by rw [← s.len]; exact hi
  have gp : ∀ j, (π.set i new)[j]? = if j = i then some new else π[j]? := fun j => by
    by_cases z : j = i
    · subst z; rw [List.getElem?_set_self hi, if_pos rfl]
    · rw [List.getElem?_set_ne (Ne.symm z), if_neg z]
  have gs : ∀ j, (σ.set i x)[j]? = if j = i then some x else σ[j]? := fun j => by
    by_cases z : j = i
    · subst z; rw [List.getElem?_set_self hσ, if_pos rfl]
    · rw [List.getElem?_set_ne (Ne.symm z), if_neg z]
  refine ⟨⟨s.le, by simpa using s.len, fun j q e => ?_, fun j sl o e1 e2 => ?_, fun j k sl sl' o1 o2 b e1 e2 e3 e4 e5 e6 => ?_⟩, fun F0 π0 σ0 H0 t hf => ⟨t.le, t.keep, t.new, fun b ⟨j, sl, o, e1, e2, e3⟩ => ?_, fun j o e => ?_⟩⟩
  · rw [gp] at e; rw [gs]
    by_cases z : j = i
    · rw [if_pos z] at e ⊢
      obtain ⟨v, e1, h⟩ := h1 q (Option.some.inj e)
      exact ⟨v, by rw [e1], h⟩
    · rw [if_neg z] at e ⊢
      exact s.vl j q e
  · rw [gp] at e1; rw [gs]
    by_cases z : j = i
    · rw [if_pos z] at e1 ⊢
      cases e1
      obtain ⟨a, e3, h4, h5, _⟩ := h2 o e2
      exact ⟨a, by rw [e3], h4, h5⟩
    · rw [if_neg z] at e1 ⊢
      exact s.ow j sl o e1 e2
  · rw [gp] at e1 e3; rw [gs] at e5 e6
    by_cases z : j = i
    · by_cases z2 : k = i
      · exact z.trans z2.symm
      · rw [if_pos z] at e1 e5
        rw [if_neg z2] at e3 e6
        cases e1
        obtain ⟨a, e7, _, _, h8⟩ := h2 o1 e2
        cases e5
        cases e7
        exact absurd ⟨k, sl', o2, e3, e4, e6⟩ h8
    · by_cases z2 : k = i
      · rw [if_pos z2] at e3 e6
        rw [if_neg z] at e1 e5
        cases e3
        obtain ⟨a, e7, _, _, h8⟩ := h2 o2 e4
        cases e6
        cases e7
        exact absurd ⟨j, sl, o1, e1, e2, e5⟩ h8
      · rw [if_neg z] at e1 e5
        rw [if_neg z2] at e3 e6
        exact s.dj j k sl sl' o1 o2 b e1 e2 e3 e4 e5 e6
  · rw [gp] at e1; rw [gs] at e3
    by_cases z : j = i
    · rw [if_pos z] at e1 e3
      cases e1
      exact hf b (Option.some.inj e3) ⟨o, e2⟩
    · rw [if_neg z] at e1 e3
      exact t.own b ⟨j, sl, o, e1, e2, e3⟩
  · obtain ⟨h5, o', h6⟩ := t.ln j o e
    have ne : j ≠ i := fun z => hl o' (by rw [← z]; exact h6)
    rw [gs, gp, if_neg ne, if_neg ne]
    exact ⟨h5, o', h6⟩
/-- the object of slot i is written -/
def Sl.put (o : O) : Sl → Sl
  | .own _ => .own o
  | .loan _ => .loan o
  | s => s
theorem SR.put {o' : O} (s : SR c F π σ H) (hi : π[i]? = some sl) (ho : sl.ow = some o) (hσ : σ[i]? = some (some (.ref a))) (hnew : OwR c F (L2.upd H a u) o' a) :
    SR c F (π.set i (sl.put o')) σ (L2.upd H a u) ∧ Tr F π σ H F (π.set i (sl.put o')) σ (L2.upd H a u) := by
  obtain ⟨b, e1, hF, hO⟩ := s.ow i _ o hi ho
  rw [hσ] at e1
  have e2 : a = b := by injection Option.some.inj (Option.some.inj e1)
  subst e2
  have hlt : i < π.length := (List.getElem?_eq_some_iff.mp hi).1
  have hput : (sl.put o').ow = some o' := by cases sl <;> first | rfl | cases ho
  have gp : ∀ j, (π.set i (sl.put o'))[j]? = if j = i then some (sl.put o') else π[j]? := fun j => by
    by_cases z : j = i
    · subst z; rw [List.getElem?_set_self hlt, if_pos rfl]
    · rw [List.getElem?_set_ne (Ne.symm z), if_neg z]
  have back : ∀ (j : Nat) (sl2 : Sl) (o2 : O), (π.set i (sl.put o'))[j]? = some sl2 → sl2.ow = some o2 → ∃ sl3 o3, π[j]? = some sl3 ∧ sl3.ow = some o3 := fun j sl2 o2 e1 e2 => by
    rw [gp] at e1
    by_cases z : j = i
    · subst z; exact ⟨sl, o, hi, ho⟩
    · rw [if_neg z] at e1; exact ⟨sl2, o2, e1, e2⟩
  refine ⟨⟨s.le.updR _ hF, by simpa using s.len, fun j q e => ?_, fun j sl2 o2 e1 e2 => ?_, fun j k sl1 sl2 o1 o2 b e1 e2 e3 e4 e5 e6 => ?_⟩, ⟨Le.refl F, fun b x e n => ?_, fun b h => .inl h, fun b ⟨j, sl2, o2, e1, e2, e3⟩ => ?_, fun j o2 e => ?_⟩⟩
  · rw [gp] at e
    by_cases z : j = i
    · rw [if_pos z] at e
      rw [Option.some.inj e] at hput
      cases hput
    · rw [if_neg z] at e
      exact s.vl j q e
  · rw [gp] at e1
    by_cases z : j = i
    · rw [if_pos z] at e1
      cases e1
      rw [hput] at e2
      cases e2
      subst z
      exact ⟨a, hσ, hF, hnew⟩
    · rw [if_neg z] at e1
      obtain ⟨b, e3, h1, h2⟩ := s.ow j sl2 o2 e1 e2
      have nb : b ≠ a := fun q => z (s.dj j i _ _ o2 o b e1 e2 hi ho e3 (by rw [q]; exact hσ))
      exact ⟨b, e3, h1, h2.step (Le.refl F) fun x q => by rw [upd_ne nb]; exact q⟩
  · obtain ⟨s3, o3, f1, f2⟩ := back j sl1 o1 e1 e2
    obtain ⟨s4, o4, f3, f4⟩ := back k sl2 o2 e3 e4
    exact s.dj j k s3 s4 o3 o4 b f1 f2 f3 f4 e5 e6
  · have nb : b ≠ a := fun q => n ⟨i, sl, o, hi, ho, by rw [q]; exact hσ⟩
    rw [upd_ne nb]; exact e
  · obtain ⟨s3, o3, f1, f2⟩ := back j sl2 o2 e1 e2
    exact .inr ⟨j, s3, o3, f1, f2, e3⟩
  · refine ⟨rfl, ?_⟩
    rw [gp]
    by_cases z : j = i
    · subst z
      rw [hi] at e
      cases e
      exact ⟨o', by rw [if_pos rfl]; rfl⟩
    · exact ⟨o2, by rw [if_neg z]; exact e⟩
end
def setR (i : Nat) (r : Rs) : M Fl := fun π => match π[i]? with
  | none => .bad
  | some (.loan _) => .bad
  | some _ => match r with
    | .val p => .ok .nx (π.set i (.val p))
    | .own o => .ok .nx (π.set i (.own o))
    | .bor _ => .bad
def setF (i : Nat) (fe : M Rs) : M Fl := fun π => (fe π).bind (setR i)
section
variable {X : Cx} {c : Ctx} {w : Ws} {e : Expr} {pos pos' : Pos} {fe : M Rs}
theorem set_post {W : WX} {F H F0 H0 : Hp} {π π0 : En} {σ : L2.St} {i : Nat} {r : Rs} {v : V} {K : Fl → En → Hp → L2.St → Hp → Prop} (s : SR c F π σ H) (hr : RR c π0 H0 F π σ H r v) (t : Tr F0 π0 σ H0 F π σ H)
    (po : PoS c W F0 π0 σ H0 (setR i r π) K) : ∃ π', K .nx π' F (σ.set i (some v)) H := by
  simp only [setR] at po
  cases q : π[i]? with
  | none => rw [q] at po; exact po.elim
  | some sl =>
    rw [q] at po
    have hi : i < π.length := (List.getElem?_eq_some_iff.mp q).1
    have main : (∀ o, sl ≠ .loan o) → PoS c W F0 π0 σ H0 (match r with | .val p => .ok .nx (π.set i (.val p)) | .own o => .ok .nx (π.set i (.own o)) | .bor _ => Out.bad) K → ∃ π', K .nx π' F (σ.set i (some v)) H := fun hn po => by
      have hl : ∀ o, π[i]? ≠ some (.loan o) := fun o z => by rw [q] at z; exact hn o (Option.some.inj z)
      cases r with
      | val p =>
        obtain ⟨s2, t2⟩ := s.set hi hl (.val p) (some v) (fun p' e => by cases e; exact ⟨v, rfl, hr⟩) (fun o e => by cases e) (fun o e => by cases e)
        exact ⟨_, po F _ H (t2 _ _ _ _ t fun a e ⟨o, h⟩ => by cases h) s2⟩
      | own o =>
        obtain ⟨a, rfl, h1, h2, h3, h4⟩ := hr
        obtain ⟨s2, t2⟩ := s.set hi hl (.own o) (some (.ref a)) (fun p' e => by cases e) (fun o e => by cases e; exact ⟨a, rfl, h1, h3, h2⟩) (fun o e => by cases e)
        exact ⟨_, po F _ H (t2 _ _ _ _ t fun b e _ => by cases e; exact h4) s2⟩
      | bor j => exact po.elim
    cases sl with
    | loan o => exact po.elim
    | no => exact main (fun o z => by cases z) po
    | val p => exact main (fun o z => by cases z) po
    | own o => exact main (fun o z => by cases z) po
theorem s_set {i : Nat} {x : Str} (hN : X.N.Nodup) (hi : X.N[i]? = some x) (hx : Loc X.env.scope x) (he : PE X e (tE c w fe)) (hs : swapsWith e (some (.Name x pos')) pos.line X.env = pure false := by rfl)
    (hf : X.fn x = true ∨ X.env.scope.names.lookup x = some .local := by first | exact .inl rfl | exact .inr rfl | assumption) : PS X (.Assign [.Name x pos'] e pos) (tS c w (setF i fe)) :=
  ps_weak (ps_set hN hi hx he hs hf) fun D σ H ⟨F, π, gg, s, po⟩ => by
    refine ⟨F, π, gg, s, ?_⟩
    unfold setF at po
    cases e0 : fe π with
    | bad => rw [e0] at po; exact po
    | exc C ps π1 => rw [e0] at po; exact fun F' H' d t s => po F' σ H' d t s
    | ok r π1 =>
      rw [e0] at po
      intro F1 H1 t s1 v hr
      obtain ⟨π', k⟩ := set_post s1 hr t po
      exact k
end
end PV

namespace PV
open PySem L2 PyProof.Rows

/-! ### defs -/
/-- the arguments behind a call: what was lent, as it now is -/
def backA (args : List Sl) (π' : En) : List Sl := args.mapIdx fun i a => match a with
  | .loan o => (π'[i]?).getD (.loan o)
  | a => a
def fnF (n : Nat) (body : M Fl) (args : List Sl) : Out Rv := match body (args ++ List.replicate n .no) with
  | .ok (.rt r) π' => .ok r (backA args π')
  | .ok .nx π' => .ok (.val .non) (backA args π')
  | .ok _ _ => .bad
  | .exc C ps π' => .exc C ps (backA args π')
  | .bad => .bad
abbrev FN := List Sl → Out Rv
def PoF (c : Ctx) (F : Hp) (πs : List Sl) (vs : List V) (H : Hp) (o : Out Rv) (Q : VK) (E : XK) : Prop := match o with
  | .ok r πs' => ∀ v F' H', Tr F πs (vs.map some) H F' πs' (vs.map some) H' → SR c F' πs' (vs.map some) H' → RC c πs (vs.map some) H F' πs' (vs.map some) H' r v → Q v H'
  | .exc C ps πs' => ∀ F' H' d, Tr F πs (vs.map some) H F' πs' (vs.map some) H' → SR c F' πs' (vs.map some) H' → XdOk c F' C ps d → E (.ref (c.cls C)) d H'
  | .bad => False
def noOwn (πs : List Sl) : Prop := ∀ (i : Nat) (o : O), πs[i]? ≠ some (.own o)
def spF (c : Ctx) (n : Nat) (Fn : FN) : Sp := fun vs H Q E => ∃ F πs, πs.length = n ∧ noOwn πs ∧ SR c F πs (vs.map some) H ∧ PoF c F πs vs H (Fn πs) Q E

section
variable {c : Ctx} {F F' H H' : Hp} {π π' : En} {σ σ' : L2.St} {vs : List V} {n : Nat} {a : Addr}
theorem get_ext {α : Type} {l : List α} {m : Nat} {z : α} {i : Nat} {x : α} (h : (l ++ List.replicate m z)[i]? = some x) : l[i]? = some x ∨ x = z := by
  by_cases hi : i < l.length
  · rw [List.getElem?_append_left hi] at h; exact .inl h
  · rw [List.getElem?_append_right (by omega), List.getElem?_replicate] at h
    split at h
    · exact .inr (Option.some.inj h).symm
    · cases h
theorem get_ext' {α : Type} {l : List α} {m : Nat} {z : α} {i : Nat} {x : α} (h : l[i]? = some x) : (l ++ List.replicate m z)[i]? = some x := by
  rw [List.getElem?_append_left (List.getElem?_eq_some_iff.mp h).1]; exact h
theorem own_ext : Own (π ++ List.replicate n .no) (σ ++ List.replicate n none) a ↔ Own π σ a := by
  constructor
  · rintro ⟨i, s, o, e1, e2, e3⟩
    rcases get_ext e1 with h | h
    · rcases get_ext e3 with h3 | h3
      · exact ⟨i, s, o, h, e2, h3⟩
      · cases h3
    · subst h; cases e2
  · rintro ⟨i, s, o, e1, e2, e3⟩
    exact ⟨i, s, o, get_ext' e1, e2, get_ext' e3⟩
theorem SR.ext (s : SR c F π σ H) (n : Nat) : SR c F (π ++ List.replicate n .no) (σ ++ List.replicate n none) H where
  le := s.le
  len := by simp [s.len]
  vl := fun i p e => by
    rcases get_ext e with h | h
    · obtain ⟨v, e1, h1⟩ := s.vl i p h
      exact ⟨v, get_ext' e1, h1⟩
    · cases h
  ow := fun i sl o e1 e2 => by
    rcases get_ext e1 with h | h
    · obtain ⟨b, e3, h1⟩ := s.ow i sl o h e2
      exact ⟨b, get_ext' e3, h1⟩
    · subst h; cases e2
  dj := fun i j s1 s2 o1 o2 b e1 e2 e3 e4 e5 e6 => by
    rcases get_ext e1 with h1 | h1
    · rcases get_ext e3 with h3 | h3
      · rcases get_ext e5 with h5 | h5
        · rcases get_ext e6 with h6 | h6
          · exact s.dj i j s1 s2 o1 o2 b h1 e2 h3 e4 h5 h6
          · cases h6
        · cases h5
      · subst h3; cases e4
    · subst h1; cases e2
theorem back_get {args : List Sl} {i : Nat} : (backA args π')[i]? = (args[i]?).map fun a => match a with
    | .loan o => (π'[i]?).getD (.loan o)
    | a => a := by
  unfold backA
  rw [List.getElem?_mapIdx]
/-- what is true behind a def's body, of its arguments -/
theorem back_ok {πs : List Sl} (hno : noOwn πs) (s : SR c F πs σ H) (t : Tr F (πs ++ List.replicate n .no) (σ ++ List.replicate n none) H F' π' σ' H') (s' : SR c F' π' σ' H') :
    Tr F πs σ H F' (backA πs π') σ H' ∧ SR c F' (backA πs π') σ H' ∧ (∀ a, Lent (backA πs π') σ a → Lent π' σ' a) := by
  have lt : ∀ (i : Nat) (sl : Sl) (o : O), (backA πs π')[i]? = some sl → sl.ow = some o → ∃ o0, πs[i]? = some (.loan o0) ∧ sl = .loan o ∧ π'[i]? = some (.loan o) ∧ σ'[i]? = σ[i]? := fun i sl o e1 e2 => by
    rw [back_get] at e1
    cases q : πs[i]? with
    | none => rw [q] at e1; cases e1
    | some a =>
      rw [q] at e1
      cases a with
      | no => cases e1; cases e2
      | val p => cases e1; cases e2
      | own o' => exact absurd q (hno i o')
      | loan o' =>
        obtain ⟨e3, o2, e4⟩ := t.ln i o' (get_ext' q)
        have e5 : (π'[i]?).getD (Sl.loan o') = sl := Option.some.inj e1
        rw [e4] at e5
        have e6 : Sl.loan o2 = sl := e5
        subst e6
        have e7 : o2 = o := Option.some.inj e2
        subst e7
        refine ⟨o', rfl, rfl, e4, ?_⟩
        rw [e3]
        exact List.getElem?_append_left (by rw [← s.len]; exact (List.getElem?_eq_some_iff.mp q).1)
  have ownb : ∀ a, Own (backA πs π') σ a → Own π' σ' a := fun a ⟨i, sl, o, e1, e2, e3⟩ => by
    obtain ⟨o0, h1, h2, h3, h4⟩ := lt i sl o e1 e2
    exact ⟨i, _, o, h3, rfl, by rw [h4]; exact e3⟩
  refine ⟨⟨t.le, fun a o h k => t.keep a o h fun z => k (own_ext.mp z), fun a h => (t.new a h).imp id (Or.imp id own_ext.mp), fun a h => (t.own a (ownb a h)).imp id own_ext.mp, fun i o e => ⟨rfl, ?_⟩⟩,
    ⟨s'.le, by unfold backA; rw [List.length_mapIdx]; exact s.len, fun i p e => ?_, fun i sl o e1 e2 => ?_, fun i j s1 s2 o1 o2 b e1 e2 e3 e4 e5 e6 => ?_⟩, fun a ⟨i, o, e1, e2⟩ => ?_⟩
  · obtain ⟨_, o2, e4⟩ := t.ln i o (get_ext' e)
    exact ⟨o2, by rw [back_get, e]; show some ((π'[i]?).getD _) = _; rw [e4] <;> rfl⟩
  · rw [back_get] at e
    cases q : πs[i]? with
    | none => rw [q] at e; cases e
    | some a =>
      rw [q] at e
      cases a with
      | no => cases e
      | own o' => cases e
      | loan o' =>
        obtain ⟨_, o2, e4⟩ := t.ln i o' (get_ext' q)
        have e5 : (π'[i]?).getD (Sl.loan o') = .val p := Option.some.inj e
        rw [e4] at e5
        cases e5
      | val p' =>
        cases e
        obtain ⟨v, e1, h1⟩ := s.vl i p q
        exact ⟨v, e1, Rp.mono t.le _ _ h1⟩
  · obtain ⟨o0, h1, h2, h3, h4⟩ := lt i sl o e1 e2
    obtain ⟨b, e3, h5, h6⟩ := s'.ow i _ o h3 rfl
    exact ⟨b, by rw [← h4]; exact e3, h5, h6⟩
  · obtain ⟨o3, h1, _⟩ := lt i s1 o1 e1 e2
    obtain ⟨o4, h2, _⟩ := lt j s2 o2 e3 e4
    exact s.dj i j _ _ o3 o4 b h1 rfl h2 rfl e5 e6
  · obtain ⟨o0, h1, h2, h3, h4⟩ := lt i _ o e1 rfl
    exact ⟨i, o, h3, by rw [h4]; exact e2⟩
end
/-- nothing is known of F besides -/
def wE (E : XK) : Ws := ⟨fun cls d _ H => E cls d H, fun _ => True, fun _ _ _ h => h⟩
section
variable {PP : Program} {ww : World} {K : PySem.W.Frag} {mg : Str → Option Value} {base : Heap} {c : Ctx}
theorem fn_ok {x qual : Str} {st : Stmt} {f : Addr} {fd : FuncData} {N ps : List Str} {k : Nat} {body : M Fl} (Fd : Fun K x qual st f fd) (S : FnScope N ps (defScope st))
    (hb : ∀ (cdv : Value) (A : Around) (outer : List Env) (s : Shared) (H : Hp) (E : XK), Room k (A.deeper (envOfC qual (defScope st) s.heap.objs.size f cdv)) →
      PSs (cxOf (L2.CX PP ww) PP ww K mg base N qual (defScope st) f cdv A outer s H E) (defBody st) (tS c (wE E) body)) :
    FnOk PP ww K mg base (L2.CX PP ww) (k + 1) f fd ps (spF c ps.length (fnF (N.length - ps.length) body)) := by
  refine Fd.okX S (fun vs H Q E h => ?_) (fun cdv A outer s H vs Q E hr h => ⟨_, hb cdv A outer s H E hr, ?_⟩)
  · obtain ⟨F, πs, hl, _, sr, _⟩ := h
    have := sr.len
    simp at this
    omega
  · obtain ⟨F, πs, hl, hno, sr, po⟩ := h
    have hvl : vs.length = ps.length := by
      have := sr.len
      simp at this
      omega
    have hst : L2.start N vs = vs.map some ++ List.replicate (N.length - ps.length) none := by unfold L2.start; rw [hvl]
    rw [hst]
    refine ⟨F, πs ++ List.replicate (N.length - ps.length) .no, trivial, sr.ext _, ?_⟩
    unfold fnF at po
    cases e : body (πs ++ List.replicate (N.length - ps.length) .no) with
    | bad => rw [e] at po; exact po
    | exc C qs π' =>
      rw [e] at po
      intro F' σ' H' d t s' xd
      obtain ⟨h1, h2, _⟩ := back_ok hno sr t s'
      exact po F' H' d h1 h2 xd
    | ok fl π' =>
      rw [e] at po
      cases fl with
      | bk => exact po.elim
      | ct => exact po.elim
      | nx =>
        intro F' σ' H' t s'
        obtain ⟨h1, h2, _⟩ := back_ok hno sr t s'
        exact po .non F' H' h1 h2 (show Rp c F' .non .non from mk_non)
      | rt r =>
        intro F' σ' H' t s' v hr'
        obtain ⟨h1, h2, h3⟩ := back_ok hno sr t s'
        refine po v F' H' h1 h2 ?_
        cases r with
        | val p => exact hr'
        | own o =>
          obtain ⟨a, e1, q1, q2, q3, q4⟩ := hr'
          exact ⟨a, e1, q1, fun z => q2 (h3 a z), q3, q4.imp id own_ext.mp⟩
end

/-! ### calls -/
def loadR (π : En) : Rs → Option Sl
  | .val p => some (.val p)
  | .own _ => none
  | .bor i => match π[i]? with
    | some (.own o) => some (.loan o)
    | some (.loan o) => some (.loan o)
    | some (.val p) => some (.val p)
    | _ => none
def loads (π : En) : List Rs → Option (List Sl)
  | [] => some []
  | r :: rs => match loadR π r, loads π rs with
    | some s, some ss => some (s :: ss)
    | _, _ => none
def borIx : Rs → Option Nat
  | .bor i => some i
  | _ => none
def findL (j : Nat) : List Rs → List Sl → Option O
  | .bor i :: rs, .loan o :: as => if i = j then some o else findL j rs as
  | _ :: rs, _ :: as => findL j rs as
  | _, _ => none
def storeA (π : En) (rs : List Rs) (as : List Sl) : En := π.mapIdx fun j sl => match findL j rs as with
  | some o => sl.put o
  | none => sl
def callR (Fn : FN) (rs : List Rs) : M Rs := fun π => match loads π rs with
  | none => .bad
  | some as => if (rs.filterMap borIx).Nodup then (match Fn as with
      | .ok r as' => .ok r.rs (storeA π rs as')
      | .exc C ps as' => .exc C ps (storeA π rs as')
      | .bad => .bad) else .bad
def callF (Fn : FN) (fa : M (List Rs)) : M Rs := fun π => (fa π).bind (callR Fn)
section
variable {c : Ctx} {F F' F0 H H' H0 : Hp} {π π' π0 : En} {σ σ' : L2.St} {rs : List Rs} {vs : List V} {as as' : List Sl} {n : Nat} {a : Addr} {W : WX}
/-- each argument, its slot and its value -/
theorem load_at : ∀ {rs : List Rs} {vs : List V} {as : List Sl}, RRs c π0 H0 F π σ H rs vs → loads π rs = some as → ∀ (k : Nat) (sl : Sl), as[k]? = some sl → ∃ r v, rs[k]? = some r ∧ vs[k]? = some v ∧ RR c π0 H0 F π σ H r v ∧ loadR π r = some sl
  | [], _, _, h, e, k, sl, hk => by cases e; simp at hk
  | r :: rs, _, _, h, e, k, sl, hk => by
    obtain ⟨v, l, rfl, h1, h2⟩ := h
    unfold loads at e
    cases e1 : loadR π r with
    | none => rw [e1] at e; cases e
    | some s =>
      cases e2 : loads π rs with
      | none => rw [e1, e2] at e; cases e
      | some ss =>
        rw [e1, e2] at e
        cases e
        cases k with
        | zero => simp at hk; subst hk; exact ⟨r, v, rfl, rfl, h1, e1⟩
        | succ k =>
          obtain ⟨r', v', q1, q2, q3, q4⟩ := load_at h2 e2 k sl (by simpa using hk)
          exact ⟨r', v', by simpa using q1, by simpa using q2, q3, q4⟩
theorem load_len : ∀ {rs : List Rs} {as : List Sl}, loads π rs = some as → as.length = rs.length
  | [], _, e => by cases e; rfl
  | r :: rs, _, e => by
    unfold loads at e
    cases e1 : loadR π r with
    | none => rw [e1] at e; cases e
    | some s =>
      cases e2 : loads π rs with
      | none => rw [e1, e2] at e; cases e
      | some ss =>
        rw [e1, e2] at e
        cases e
        simp [load_len e2]
theorem rrs_len : ∀ {rs : List Rs} {vs : List V}, RRs c π0 H0 F π σ H rs vs → vs.length = rs.length
  | [], _, h => by rw [show _ = [] from h]; rfl
  | r :: rs, _, h => by
    obtain ⟨v, l, rfl, _, h2⟩ := h
    simp [rrs_len h2]
theorem loadR_loan {r : Rs} {o : O} (h : loadR π r = some (.loan o)) : ∃ i sl, r = .bor i ∧ π[i]? = some sl ∧ sl.ow = some o := by
  cases r with
  | val p => cases h
  | own o => cases h
  | bor i =>
    simp only [loadR] at h
    cases q : π[i]? with
    | none => rw [q] at h; cases h
    | some sl =>
      rw [q] at h
      cases sl with
      | no => cases h
      | val p => cases h
      | own o' => cases h; exact ⟨i, _, rfl, q, rfl⟩
      | loan o' => cases h; exact ⟨i, _, rfl, q, rfl⟩
theorem load_noOwn (h : RRs c π0 H0 F π σ H rs vs) (e : loads π rs = some as) : noOwn as := fun k o q => by
  obtain ⟨r, v, _, _, _, h4⟩ := load_at h e k _ q
  cases r with
  | val p => cases h4
  | own o => cases h4
  | bor i =>
    simp only [loadR] at h4
    cases q : π[i]? with
    | none => rw [q] at h4; cases h4
    | some sl =>
      rw [q] at h4
      cases sl <;> cases h4
theorem nodup_bor : ∀ {rs : List Rs}, (rs.filterMap borIx).Nodup → ∀ (k k' i : Nat), rs[k]? = some (.bor i) → rs[k']? = some (.bor i) → k = k'
  | [], _, k, k', i, h, _ => by simp at h
  | r :: rs, hn, k, k', i, h1, h2 => by
    have mem : ∀ {m : Nat}, rs[m]? = some (.bor i) → i ∈ rs.filterMap borIx := fun {m} q => List.mem_filterMap.mpr ⟨_, List.mem_of_getElem? q, rfl⟩
    cases k with
    | zero =>
      cases k' with
      | zero => rfl
      | succ k' =>
        simp at h1; subst h1
        rw [List.filterMap_cons_some (show borIx (.bor i) = some i from rfl), List.nodup_cons] at hn
        exact absurd (mem (by simpa using h2)) hn.1
    | succ k =>
      cases k' with
      | zero =>
        simp at h2; subst h2
        rw [List.filterMap_cons_some (show borIx (.bor i) = some i from rfl), List.nodup_cons] at hn
        exact absurd (mem (by simpa using h1)) hn.1
      | succ k' =>
        have hn' : (rs.filterMap borIx).Nodup := by
          cases e : borIx r with
          | none => rw [List.filterMap_cons_none e] at hn; exact hn
          | some x => rw [List.filterMap_cons_some e, List.nodup_cons] at hn; exact hn.2
        rw [nodup_bor hn' k k' i (by simpa using h1) (by simpa using h2)]
theorem load_sr (s : SR c F π σ H) (h : RRs c π0 H0 F π σ H rs vs) (e : loads π rs = some as) (hn : (rs.filterMap borIx).Nodup) : SR c F as (vs.map some) H ∧ ∀ a, Own as (vs.map some) a → Own π σ a := by
  have ln : ∀ (k : Nat) (sl : Sl) (o : O), as[k]? = some sl → sl.ow = some o → ∃ i sl' v, sl = .loan o ∧ rs[k]? = some (.bor i) ∧ π[i]? = some sl' ∧ sl'.ow = some o ∧ vs[k]? = some v ∧ σ[i]? = some (some v) := fun k sl o e1 e2 => by
    obtain ⟨r, v, q1, q2, q3, q4⟩ := load_at h e k sl e1
    cases sl with
    | no => cases e2
    | val p => cases e2
    | own o' => exact absurd e1 (load_noOwn h e k o')
    | loan o' =>
      cases e2
      obtain ⟨i, sl', rfl, q5, q6⟩ := loadR_loan q4
      exact ⟨i, sl', v, rfl, q1, q5, q6, q2, q3⟩
  refine ⟨⟨s.le, by simp [load_len e, rrs_len h], fun k p e1 => ?_, fun k sl o e1 e2 => ?_, fun k k' s1 s2 o1 o2 b e1 e2 e3 e4 e5 e6 => ?_⟩, fun b ⟨k, sl, o, e1, e2, e3⟩ => ?_⟩
  · obtain ⟨r, v, q1, q2, q3, q4⟩ := load_at h e k _ e1
    refine ⟨v, by simp [q2], ?_⟩
    cases r with
    | val p' => cases q4; exact q3
    | own o => cases q4
    | bor i =>
      simp only [loadR] at q4
      have q3' : σ[i]? = some (some v) := q3
      cases q : π[i]? with
      | none => rw [q] at q4; cases q4
      | some sl =>
        rw [q] at q4
        cases sl with
        | no => cases q4
        | own o' => cases q4
        | loan o' => cases q4
        | val p' =>
          cases q4
          obtain ⟨v', e5, h5⟩ := s.vl i p q
          rw [q3'] at e5
          cases e5
          exact h5
  · obtain ⟨i, sl', v, _, q1, q2, q3, q4, q5⟩ := ln k sl o e1 e2
    obtain ⟨b, e3, h1, h2⟩ := s.ow i sl' o q2 q3
    rw [q5] at e3
    cases e3
    exact ⟨b, by simp [q4], h1, h2⟩
  · obtain ⟨i, sl', v, _, q1, q2, q3, q4, q5⟩ := ln k s1 o1 e1 e2
    obtain ⟨j, sl2, v2, _, p1, p2, p3, p4, p5⟩ := ln k' s2 o2 e3 e4
    have r1 : v = .ref b := by simp [q4] at e5; exact e5
    have r2 : v2 = .ref b := by simp [p4] at e6; exact e6
    subst r1 r2
    have := s.dj i j _ _ o1 o2 b q2 q3 p2 p3 q5 p5
    subst this
    exact nodup_bor hn k k' i q1 p1
  · obtain ⟨i, sl', v, _, q1, q2, q3, q4, q5⟩ := ln k sl o e1 e2
    have r1 : v = .ref b := by simp [q4] at e3; exact e3
    subst r1
    exact ⟨i, sl', o, q2, q3, q5⟩
theorem findL_some : ∀ {rs : List Rs} {as : List Sl} {j : Nat} {o : O}, findL j rs as = some o → ∃ k : Nat, rs[k]? = some (Rs.bor j) ∧ as[k]? = some (Sl.loan o)
  | [], _, _, _, h => by simp [findL] at h
  | r :: _, [], _, _, h => by cases r <;> simp [findL] at h
  | r :: rs, a :: as, j, o, h => by
    have up : findL j rs as = some o → ∃ k : Nat, (r :: rs)[k]? = some (Rs.bor j) ∧ (a :: as)[k]? = some (Sl.loan o) := fun h => by
      obtain ⟨k, h1, h2⟩ := findL_some h
      exact ⟨k + 1, by simpa using h1, by simpa using h2⟩
    cases r with
    | val p => exact up h
    | own o' => exact up h
    | bor i =>
      cases a with
      | no => exact up h
      | val p => exact up h
      | own o' => exact up h
      | loan o' =>
        unfold findL at h
        by_cases z : i = j
        · rw [if_pos z] at h
          subst z
          exact ⟨0, rfl, by rw [Option.some.inj h]; rfl⟩
        · rw [if_neg z] at h; exact up h
theorem findL_none : ∀ {rs : List Rs} {as : List Sl} {j : Nat}, findL j rs as = none → ∀ (k : Nat) (o : O), rs[k]? = some (.bor j) → as[k]? ≠ some (.loan o)
  | [], _, _, _, k, o, h1 => by simp at h1
  | _ :: _, [], _, _, k, o, h1 => by simp
  | r :: rs, a :: as, j, h, k, o, h1 => by
    have up : findL j rs as = none → k ≠ 0 → (a :: as)[k]? ≠ some (.loan o) := fun h hk => by
      cases k with
      | zero => exact absurd rfl hk
      | succ k =>
        have := findL_none h k o (by simpa using h1)
        simpa using this
    cases k with
    | zero =>
      simp at h1; subst h1
      cases a with
      | no => simp
      | val p => simp
      | own o' => simp
      | loan o' => unfold findL at h; rw [if_pos rfl] at h; cases h
    | succ k =>
      refine up ?_ (Nat.succ_ne_zero k)
      cases r with
      | val p => exact h
      | own o' => exact h
      | bor i =>
        cases a with
        | no => exact h
        | val p => exact h
        | own o' => exact h
        | loan o' =>
          unfold findL at h
          by_cases z : i = j
          · rw [if_pos z] at h; cases h
          · rw [if_neg z] at h; exact h
theorem store_get {j : Nat} : (storeA π rs as)[j]? = (π[j]?).map fun sl => match findL j rs as with
    | some o => sl.put o
    | none => sl := by
  unfold storeA
  rw [List.getElem?_mapIdx]
theorem put_ow {sl : Sl} {o : O} : (sl.put o).ow = sl.ow.map fun _ => o := by cases sl <;> rfl
/-- behind the call: the caller's slots -/
theorem store_ok (s : SR c F π σ H) (h : RRs c π0 H0 F π σ H rs vs) (e : loads π rs = some as) (hn : (rs.filterMap borIx).Nodup)
    (t : Tr F as (vs.map some) H F' as' (vs.map some) H') (s' : SR c F' as' (vs.map some) H') :
    SR c F' (storeA π rs as') σ H' ∧ Tr F π σ H F' (storeA π rs as') σ H' ∧ (∀ r v, RC c as (vs.map some) H F' as' (vs.map some) H' r v → RR c π H F' (storeA π rs as') σ H' r.rs v) := by
  obtain ⟨sa, oa⟩ := load_sr s h e hn
  have lift : ∀ (j : Nat) (sl : Sl) (o : O), (storeA π rs as')[j]? = some sl → sl.ow = some o → ∃ sl1 o1, π[j]? = some sl1 ∧ sl1.ow = some o1 ∧ (match findL j rs as' with | some o2 => o = o2 | none => o = o1) := fun j sl o e1 e2 => by
    rw [store_get] at e1
    cases q : π[j]? with
    | none => rw [q] at e1; cases e1
    | some sl1 =>
      rw [q] at e1
      cases f : findL j rs as' with
      | none =>
        rw [f] at e1
        cases e1
        exact ⟨_, o, rfl, e2, rfl⟩
      | some o2 =>
        rw [f] at e1
        have e3 : sl1.put o2 = sl := Option.some.inj e1
        subst e3
        rw [put_ow] at e2
        cases g : sl1.ow with
        | none => rw [g] at e2; cases e2
        | some o1 => rw [g] at e2; exact ⟨sl1, o1, rfl, g, (Option.some.inj e2).symm⟩
  -- whom the call owned
  have who : ∀ (b : Addr) (j : Nat) (sl1 : Sl) (o1 : O), π[j]? = some sl1 → sl1.ow = some o1 → σ[j]? = some (some (.ref b)) → Own as (vs.map some) b → findL j rs as' ≠ none := fun b j sl1 o1 e1 e2 e3 ⟨k, sl, o, q1, q2, q3⟩ z => by
    obtain ⟨r, v, p1, p2, p3, p4⟩ := load_at h e k sl q1
    cases sl with
    | no => cases q2
    | val p => cases q2
    | own o' => exact load_noOwn h e k o' q1
    | loan o' =>
      obtain ⟨i, sl', rfl, p5, p6⟩ := loadR_loan p4
      have p3' : σ[i]? = some (some v) := p3
      have r1 : v = .ref b := by simp [p2] at q3; exact q3
      subst r1
      have := s.dj i j _ _ o' o1 b p5 p6 e1 e2 p3' e3
      subst this
      obtain ⟨_, o2, e4⟩ := t.ln k o' q1
      exact findL_none z k o2 p1 e4
  have own1 : ∀ b, Own (storeA π rs as') σ b → Own π σ b := fun b ⟨j, sl, o, e1, e2, e3⟩ => by
    obtain ⟨sl1, o1, q1, q2, _⟩ := lift j sl o e1 e2
    exact ⟨j, sl1, o1, q1, q2, e3⟩
  have tr : Tr F π σ H F' (storeA π rs as') σ H' := ⟨t.le, fun b o q n => t.keep b o q fun z => n (oa b z), fun b q => (t.new b q).imp id (Or.imp id (oa b)), fun b q => .inr (own1 b q), fun j o q => ⟨rfl, ?_⟩⟩
  · refine ⟨⟨s'.le, by unfold storeA; rw [List.length_mapIdx]; exact s.len, fun j p q => ?_, fun j sl o e1 e2 => ?_, fun j k s1 s2 o1 o2 b e1 e2 e3 e4 e5 e6 => ?_⟩, tr, fun r v hr => ?_⟩
    · rw [store_get] at q
      cases z : π[j]? with
      | none => rw [z] at q; cases q
      | some sl =>
        rw [z] at q
        have hv : sl = .val p := by
          cases f : findL j rs as' with
          | none => rw [f] at q; exact Option.some.inj q
          | some o2 =>
            rw [f] at q
            have q' : sl.put o2 = .val p := Option.some.inj q
            cases sl <;> first | exact q' | cases q'
        subst hv
        obtain ⟨v, e1, h1⟩ := s.vl j p z
        exact ⟨v, e1, Rp.mono t.le _ _ h1⟩
    · obtain ⟨sl1, o1, q1, q2, q3⟩ := lift j sl o e1 e2
      obtain ⟨b, e3, h1, h2⟩ := s.ow j sl1 o1 q1 q2
      refine ⟨b, e3, ?_⟩
      cases f : findL j rs as' with
      | some o2 =>
        rw [f] at q3
        have q3' : o = o2 := q3
        subst q3'
        obtain ⟨k, p1, p2⟩ := findL_some f
        obtain ⟨b', e4, h3, h4⟩ := s'.ow k _ o p2 rfl
        have hk : k < rs.length := (List.getElem?_eq_some_iff.mp p1).1
        have hk2 : k < as.length := by rw [load_len e]; exact hk
        obtain ⟨r, v, w1, w2, w3, w4⟩ := load_at h e k _ (List.getElem?_eq_getElem hk2)
        rw [p1] at w1
        cases w1
        have w3' : σ[j]? = some (some v) := w3
        rw [e3] at w3'
        cases w3'
        have r1 : b = b' := by simp [w2] at e4; exact e4
        subst r1
        exact ⟨h3, h4⟩
      | none =>
        rw [f] at q3
        have q3' : o = o1 := q3
        subst q3'
        have nb : ¬ Own as (vs.map some) b := fun z => who b j sl1 o q1 q2 e3 z f
        obtain ⟨u, hu⟩ := h2.there
        refine ⟨?_, h2.step t.le fun x q => t.keep b x q nb⟩
        cases g : F' b with
        | none => rfl
        | some x =>
          rcases t.new b (by rw [g]; exact fun z => nomatch z) with z | z | z
          · exact absurd h1 z
          · rw [hu] at z; cases z
          · exact absurd z nb
    · obtain ⟨s3, o3, q1, q2, _⟩ := lift j s1 o1 e1 e2
      obtain ⟨s4, o4, q3, q4, _⟩ := lift k s2 o2 e3 e4
      exact s.dj j k s3 s4 o3 o4 b q1 q2 q3 q4 e5 e6
    · cases r with
      | val p => exact hr
      | own o =>
        obtain ⟨b, e1, q1, q2, q3, q4⟩ := hr
        have fresh : H b = none := by
          rcases q4 with q | ⟨k, sl, o2, p1, p2, p3⟩
          · exact q
          · cases sl with
            | no => cases p2
            | val p => cases p2
            | own o' => exact absurd p1 (load_noOwn h e k o')
            | loan o' =>
              obtain ⟨w1, o3, w2⟩ := t.ln k o' p1
              exact absurd ⟨k, o3, w2, p3⟩ q2
        refine ⟨b, e1, q1, fun z => ?_, q3, .inl fresh⟩
        obtain ⟨u, hu⟩ := own_some s (own1 b z)
        rw [hu] at fresh; cases fresh
  · rw [store_get, q]
    cases findL j rs as' with
    | none => exact ⟨o, rfl⟩
    | some o2 => exact ⟨o2, rfl⟩
/-- the call's reading -/
theorem call_post {Fn : FN} {K : Rs → En → Hp → Hp → Prop} {Q : VK} {n : Nat} (s : SR c F π σ H) (h : RRs c π0 H0 F π σ H rs vs) (hlen : rs.length = n)
    (po : Po c W F π σ H (callR Fn rs π) K) (k : ∀ r π' F' H' v, Tr F π σ H F' π' σ H' → K r π' F' H' → RR c π H F' π' σ H' r v → Q v H') : spF c n Fn vs H Q (fun cls d H' => W cls d σ H') := by
  unfold callR at po
  cases e : loads π rs with
  | none => rw [e] at po; exact po.elim
  | some as =>
    rw [e] at po
    by_cases hn : (rs.filterMap borIx).Nodup
    · simp only [if_pos hn] at po
      obtain ⟨sa, oa⟩ := load_sr s h e hn
      refine ⟨F, as, by rw [load_len e]; exact hlen, load_noOwn h e, sa, ?_⟩
      cases f : Fn as with
      | bad => rw [f] at po; exact po
      | exc C ps as' =>
        rw [f] at po
        intro F' H' d t s' xd
        obtain ⟨h1, h2, _⟩ := store_ok s h e hn t s'
        exact po F' H' d h2 h1 xd
      | ok r as' =>
        rw [f] at po
        intro v F' H' t s' hr
        obtain ⟨h1, h2, h3⟩ := store_ok s h e hn t s'
        exact k _ _ _ _ v h2 (po F' H' h2 h1) (h3 r v hr)
    · simp only [if_neg hn] at po
      exact po.elim
end
section
variable {X : Cx} {c : Ctx} {w : Wi} {k n : Nat} {f : Addr} {fd : FuncData} {ps : List Str} {Fn : FN} {x m : Str} {p pos apos : Pos} {e o : Expr} {es : List Expr} {fa : M (List Rs)} {fo : M Rs}
/-- f(e, ..) -/
theorem p_call (G : FnOk X.prog X.w X.K X.mg X.base (L2.CX X.prog X.w) k f fd ps (spF c n Fn)) (hr : Room k X.A) (hg : Gl X x) (hm : X.mg x = some (.ref f)) (hk : PySem.W.keepIn X.K (.ref f) = true) (hb : Binds X.K fd ps []) (tk : Takes X w.W)
    (ha : PA X (e :: es) (tR c w fa)) (hlen : ∀ π rs π', fa π = .ok rs π' → rs.length = n) (hdb : (x == ("__debug__" : Str)) = false := by decide) (he : starEach (e :: es) X.env = (false, eval e X.env) :: starEach es X.env := by rfl) (hpl : (backTo pos (starEach es X.env)).any (·.1) = false := by rfl) :
    PE X (.Call (.Name x p) (e :: es) [] pos) (tE c w (callF Fn fa)) :=
  pe_weak (pe_callS G hr hg hm hk hb (fun σ => passAt tk σ) ha hdb he hpl) fun σ H Q ⟨F, π, gg, s, po⟩ => by
    refine ⟨F, π, gg, s, ?_⟩
    unfold callF at po
    cases e0 : fa π with
    | bad => rw [e0] at po; exact po
    | exc C qs π1 => rw [e0] at po; exact po
    | ok rs π1 =>
      rw [e0] at po
      intro F1 H1 t s1 vs hx
      refine call_post s1 hx (hlen _ _ _ e0) (Po.from po t) fun r π2 F2 H2 v t2 kk hr2 => kk v (hr2.base t)
end
end PV

namespace PV
open PySem L2 PyProof.Rows

/-! ### tests -/
def tstR (r : Rs) : M Bool := fun π => match r with
  | .val (.bl b) => .ok b π
  | _ => .bad
def tstF (f : M Rs) : M Bool := fun π => (f π).bind tstR
theorem tst_weak {c : Ctx} {w : Wi} {f : M Rs} {t : TE} (h : ∀ σ H Q, tE c w f σ H Q → t σ H Q) : ∀ (σ : L2.St) (H : Hp) (Q : Bool → Hp → Prop), tT c w (tstF f) σ H Q → t σ H (fun x H' => ∃ k, x = .bl k ∧ Q k H') := fun σ H Q ⟨F, π, gg, s, po⟩ => by
  refine h σ H _ ⟨F, π, gg, s, (Po.split po).mono fun r π1 F1 H1 t s1 p1 v hr => ?_⟩
  cases r with
  | own o => exact p1.elim
  | bor i => exact p1.elim
  | val p =>
    cases p with
    | bl b => exact ⟨b, rp_bl (show Rp c F1 (.bl b) v from hr), p1 F1 H1 .refl s1⟩
    | _ => exact p1.elim
section
variable {X : Cx} {c : Ctx} {w : Wi} {e a b d : Expr} {rest : List Expr} {pos : Pos} {f g h : M Rs} {ft gt : M Bool}
/-- a value that is a truth -/
theorem p_tst (he : PE X e (tE c w f)) (hi : ∀ whole, isTrue e X.env whole = (do let v ← whole; standAt e.pos; holding [v] (truthy v)) := by intro _; rfl) : PT X e (tT c w (tstF f)) :=
  pt_weak (pt_val he hi) (tst_weak fun _ _ _ h => h)
theorem p_tcmp {op : CmpOp} {r : R2} {o : P → P → Option Rv} (hop : OpR X (compareOp op) r) (hv : OpV c r o) (ha : PE X a (tE c w f)) (hb : PE X b (tE c w g)) (hm : behindInMarks op b = false) : PT X (.Compare a [op] [b] pos) (tT c w (tstF (binF o f g))) :=
  pt_weak (pt_cmpR hop ha hb hm) (tst_weak (bin_weak hv))
theorem pw_weak {X : Cx} {e : Expr} {t t' : TT} (h : PW X e t) (k : ∀ σ H Q, t' σ H Q → t σ H Q) : PW X e t' := ⟨fun wh pins s σ H Q I q => h.run wh pins s σ H Q I (k _ _ _ q)⟩
def andF (ft gt : M Bool) : M Bool := fun π => (ft π).bind fun b π1 => if b = true then gt π1 else .ok false π1
def orF (ft gt : M Bool) : M Bool := fun π => (ft π).bind fun b π1 => if b = true then .ok true π1 else gt π1
def notF (ft : M Bool) : M Bool := fun π => (ft π).bind fun b π1 => .ok (!b) π1
theorem w_and1 (ha : PT X a (tT c w ft)) : PW X (.BoolOp .And [a] pos) (tT c w ft) := pw_and1 ha
theorem w_or1 (ha : PT X a (tT c w ft)) : PW X (.BoolOp .Or [a] pos) (tT c w ft) := pw_or1 ha
theorem w_and (ha : PT X a (tT c w ft)) (hb : PW X (.BoolOp .And (b :: rest) pos) (tT c w gt)) : PW X (.BoolOp .And (a :: b :: rest) pos) (tT c w (andF ft gt)) :=
  pw_weak (pw_and ha hb) fun σ H Q ⟨F, π, gg, s, po⟩ => by
    refine ⟨F, π, gg, s, (Po.split po).mono fun k π1 F1 H1 t s1 p1 => ?_⟩
    cases k with
    | true => exact ⟨F1, π1, w.mono _ _ t.le gg, s1, p1⟩
    | false => exact p1 F1 H1 .refl s1
theorem w_or (ha : PT X a (tT c w ft)) (hb : PW X (.BoolOp .Or (b :: rest) pos) (tT c w gt)) : PW X (.BoolOp .Or (a :: b :: rest) pos) (tT c w (orF ft gt)) :=
  pw_weak (pw_or ha hb) fun σ H Q ⟨F, π, gg, s, po⟩ => by
    refine ⟨F, π, gg, s, (Po.split po).mono fun k π1 F1 H1 t s1 p1 => ?_⟩
    cases k with
    | false => exact ⟨F1, π1, w.mono _ _ t.le gg, s1, p1⟩
    | true => exact p1 F1 H1 .refl s1
theorem p_not (ha : PT X a (tT c w ft)) : PT X (.UnaryOp .Not a pos) (tT c w (notF ft)) :=
  pt_weak (pt_not ha) fun σ H Q ⟨F, π, gg, s, po⟩ => ⟨F, π, gg, s, (Po.split po).mono fun k π1 F1 H1 t s1 p1 => p1 F1 H1 .refl s1⟩
/-! .. as values -/
def boolR (k : Bool → M Rs) (r : Rs) : M Rs := fun π => match r with
  | .val (.bl b) => k b π
  | _ => .bad
def andVF (f g : M Rs) : M Rs := fun π => (f π).bind (boolR fun b π1 => if b = true then g π1 else .ok (.val (.bl false)) π1)
def orVF (f g : M Rs) : M Rs := fun π => (f π).bind (boolR fun b π1 => if b = true then .ok (.val (.bl true)) π1 else g π1)
def notVF (f : M Rs) : M Rs := fun π => (f π).bind (boolR fun b π1 => .ok (.val (.bl (!b))) π1)
theorem boolR_post {W : WX} {F H H0 : Hp} {π π0 : En} {σ : L2.St} {k : Bool → M Rs} {r : Rs} {v : V} {K : Rs → En → Hp → Hp → Prop} (hr : RR c π0 H0 F π σ H r v) (po : Po c W F π σ H (boolR k r π) K) : ∃ b, v = .bl b ∧ Po c W F π σ H (k b π) K := by
  cases r with
  | own o => exact po.elim
  | bor i => exact po.elim
  | val p =>
    cases p with
    | bl b => exact ⟨b, rp_bl (show Rp c F (.bl b) v from hr), po⟩
    | _ => exact po.elim
theorem v_one {op} (h : PE X a (tE c w f)) : PE X (.BoolOp op [a] pos) (tE c w f) := pe_one h
theorem v_and (ha : PE X a (tE c w f)) (hb : PE X (.BoolOp .And (b :: rest) pos) (tE c w g)) : PE X (.BoolOp .And (a :: b :: rest) pos) (tE c w (andVF f g)) :=
  pe_weak (pe_and ha hb) fun σ H Q ⟨F, π, gg, s, po⟩ => by
    refine ⟨F, π, gg, s, (Po.split po).mono fun r π1 F1 H1 t s1 p1 v hr => ?_⟩
    obtain ⟨k, rfl, p2⟩ := boolR_post hr p1
    refine ⟨k, rfl, ?_⟩
    cases k with
    | true => exact ⟨F1, π1, w.mono _ _ t.le gg, s1, Po.mono p2 fun r2 π2 F2 H2 t2 s2 kk v2 h2 => kk v2 (h2.base t)⟩
    | false => exact p2 F1 H1 .refl s1 _ (show Rp c F1 (.bl false) (.bl false) from mk_bl)
theorem v_or (ha : PE X a (tE c w f)) (hb : PE X (.BoolOp .Or (b :: rest) pos) (tE c w g)) : PE X (.BoolOp .Or (a :: b :: rest) pos) (tE c w (orVF f g)) :=
  pe_weak (pe_or ha hb) fun σ H Q ⟨F, π, gg, s, po⟩ => by
    refine ⟨F, π, gg, s, (Po.split po).mono fun r π1 F1 H1 t s1 p1 v hr => ?_⟩
    obtain ⟨k, rfl, p2⟩ := boolR_post hr p1
    refine ⟨k, rfl, ?_⟩
    cases k with
    | false => exact ⟨F1, π1, w.mono _ _ t.le gg, s1, Po.mono p2 fun r2 π2 F2 H2 t2 s2 kk v2 h2 => kk v2 (h2.base t)⟩
    | true => exact p2 F1 H1 .refl s1 _ (show Rp c F1 (.bl true) (.bl true) from mk_bl)
theorem v_not (ha : PE X a (tE c w f)) : PE X (.UnaryOp .Not a pos) (tE c w (notVF f)) :=
  pe_weak (pe_not ha) fun σ H Q ⟨F, π, gg, s, po⟩ => by
    refine ⟨F, π, gg, s, (Po.split po).mono fun r π1 F1 H1 t s1 p1 v hr => ?_⟩
    obtain ⟨k, rfl, p2⟩ := boolR_post hr p1
    exact ⟨k, rfl, p2 F1 H1 .refl s1 _ (show Rp c F1 (.bl (!k)) (.bl (!k)) from mk_bl)⟩
/-! a if t else b -/
def ifEF (ft : M Bool) (f g : M Rs) : M Rs := fun π => (ft π).bind fun b π1 => if b = true then f π1 else g π1
theorem p_ifExp (hc : PT X d (tT c w ft)) (ha : PE X a (tE c w f)) (hb : PE X b (tE c w g)) : PE X (.IfExp d a b pos) (tE c w (ifEF ft f g)) :=
  pe_weak (pe_ifExp hc ha hb) fun σ H Q ⟨F, π, gg, s, po⟩ => by
    refine ⟨F, π, gg, s, (Po.split po).mono fun k π1 F1 H1 t s1 p1 => ?_⟩
    cases k with
    | true => exact ⟨F1, π1, w.mono _ _ t.le gg, s1, Po.mono p1 fun r2 π2 F2 H2 t2 s2 kk v2 h2 => kk v2 (h2.base t)⟩
    | false => exact ⟨F1, π1, w.mono _ _ t.le gg, s1, Po.mono p1 fun r2 π2 F2 H2 t2 s2 kk v2 h2 => kk v2 (h2.base t)⟩
/-! a op b op' d -/
def chF (o o' : P → P → Option Rv) (f g h : M Rs) : M Rs := fun π => (f π).bind fun r1 π1 => (g π1).bind fun r2 π2 => (op2 o r1 r2 π2).bind (boolR fun b π3 => if b = true then (h π3).bind (fun r3 => op2 o' r2 r3) else .ok (.val (.bl false)) π3)
theorem op2_post {W : WX} {F H H1 H2 : Hp} {π π1 π2 : En} {σ : L2.St} {o : P → P → Option Rv} {r : R2} (hv : OpV c r o) {r1 r2 : Rs} {x y : V} {K : Rs → En → Hp → Hp → Prop} {Q : VK} (s : SR c F π σ H) (hx : RR c π1 H1 F π σ H r1 x) (hy : RR c π2 H2 F π σ H r2 y)
    (po : Po c W F π σ H (op2 o r1 r2 π) K) (k : ∀ r' F' H' v, Tr F π σ H F' π σ H' → SR c F' π σ H' → K r' π F' H' → RR c π H F' π σ H' r' v → Q v H') : r x y H Q := by
  unfold op2 at po
  cases e1 : rdP π r1 with
  | none => rw [e1] at po; exact po.elim
  | some q1 =>
    cases e2 : rdP π r2 with
    | none => rw [e1, e2] at po; exact po.elim
    | some q2 =>
      rw [e1, e2] at po
      cases e3 : o q1 q2 with
      | none => simp only [e3] at po; exact po.elim
      | some rv =>
        simp only [e3] at po
        exact hv F H q1 q2 x y rv Q s.le (hx.rb s e1) (hy.rb s e2) e3 fun v F3 H3 gr rn => k _ F3 H3 v gr.tr (gr.sr s) (po F3 H3 gr.tr (gr.sr s)) (rn.rr s gr)
theorem ch_weak {r r' : R2} {o o' : P → P → Option Rv} (hv : OpV c r o) (hv' : OpV c r' o') : ∀ σ H Q, tE c w (chF o o' f g h) σ H Q → tChain r r' (tE c w f) (tE c w g) (tE c w h) σ H Q := fun σ H Q ⟨F, π, gg, s, po⟩ => by
  refine ⟨F, π, gg, s, (Po.split po).mono fun r1 π1 F1 H1 t1 s1 p1 x hx => ⟨F1, π1, w.mono _ _ t1.le gg, s1, (Po.split p1).mono fun r2 π2 F2 H2 t2 s2 p2 y hy => ?_⟩⟩
  refine op2_post hv s2 (hx.step t2) hy (Po.split p2) fun r3 F3 H3 v t3 s3 p3 h3 => ?_
  obtain ⟨k, rfl, p4⟩ := boolR_post h3 p3
  refine ⟨k, rfl, ?_⟩
  cases k with
  | false => exact p4 F3 H3 .refl s3 _ (show Rp c F3 (.bl false) (.bl false) from mk_bl)
  | true =>
    refine ⟨F3, π2, w.mono _ _ ((t1.trans t2).trans t3).le gg, s3, (Po.split p4).mono fun r4 π4 F4 H4 t4 s4 p5 z hz => ?_⟩
    exact op2_post hv' s4 ((hy.step t3).step t4) hz p5 fun r5 F5 H5 v t5 s5 kk h5 => kk v (h5.base (((t1.trans t2).trans t3).trans t4))
theorem p_chain {op op' : CmpOp} {r r' : R2} {o o' : P → P → Option Rv} (ho : OpR X (compareOp op) r) (hv : OpV c r o) (ho' : OpR X (compareOp op') r') (hv' : OpV c r' o') (ha : PE X a (tE c w f)) (hb : PE X b (tE c w g)) (hc : PE X d (tE c w h))
    (hm : lastMarks [op, op'] [b, d] = false := by with_unfolding_all rfl) : PE X (.Compare a [op, op'] [b, d] pos) (tE c w (chF o o' f g h)) := pe_weak (pe_chain ho ho' ha hb hc hm) (ch_weak hv hv')
theorem p_tchain {op op' : CmpOp} {r r' : R2} {o o' : P → P → Option Rv} (ho : OpR X (compareOp op) r) (hv : OpV c r o) (ho' : OpR X (compareOp op') r') (hv' : OpV c r' o') (ha : PE X a (tE c w f)) (hb : PE X b (tE c w g)) (hc : PE X d (tE c w h))
    (hm : lastMarks [op, op'] [b, d] = false := by with_unfolding_all rfl) : PT X (.Compare a [op, op'] [b, d] pos) (tT c w (tstF (chF o o' f g h))) := pt_weak (pt_chain ho ho' ha hb hc hm) (tst_weak (ch_weak hv hv'))
end

/-! ### displays: their items are taken -/
def outs (f : M (List Rs)) (k : List P → M Rs) : M Rs := fun π => (f π).bind fun rs π1 => match rds π1 rs with
  | some ps => k ps π1
  | none => .bad
/-- items: each a value -/
def vals : List Rs → Option (List P)
  | [] => some []
  | .val p :: rs => (vals rs).map (p :: ·)
  | _ :: _ => none
def tupR (rs : List Rs) : M Rs := fun π => match vals rs with
  | some ps => if ps.length ≤ 1000000 then .ok (.val (.tup ps)) π else .bad
  | none => .bad
def lstR (rs : List Rs) : M Rs := fun π => match vals rs with
  | some ps => if ps.length ≤ 1000000 then .ok (.own (.lst ps)) π else .bad
  | none => .bad
def tupF (f : M (List Rs)) : M Rs := fun π => (f π).bind tupR
def lstF (f : M (List Rs)) : M Rs := fun π => (f π).bind lstR
section
variable {X : Cx} {c : Ctx} {w : Wi} {es : List Expr} {pos : Pos} {f : M (List Rs)} {π0 : En} {H0 F H : Hp} {π : En} {σ : L2.St}
theorem vals_rps : ∀ {rs : List Rs} {vs : List V} {ps : List P}, RRs c π0 H0 F π σ H rs vs → vals rs = some ps → Rps c F ps vs
  | [], _, _, h, e => by cases e; rw [show _ = [] from h]; exact rps_nil
  | .val p :: rs, _, _, h, e => by
    obtain ⟨v, l, rfl, h1, h2⟩ := h
    unfold vals at e
    cases e1 : vals rs with
    | none => rw [e1] at e; cases e
    | some qs =>
      rw [e1] at e
      cases e
      exact rps_cons h1 (vals_rps h2 e1)
  | .own _ :: _, _, _, _, e => by cases e
  | .bor _ :: _, _, _, _, e => by cases e
theorem len_line {ps : List P} {vs : List V} (r : Rps c F ps vs) (h : ps.length ≤ 1000000) : vs.length ≤ sizeLine := by
  have := rps_len r
  have := sizeLine_eq
  omega
theorem p_tup {x1} (h : PA X es (tR c w f)) : PE X (.Tuple es x1 pos) (tE c w (tupF f)) := pe_weak (pe_tup h) fun σ H Q ⟨F, π, gg, s, po⟩ => by
  refine ⟨F, π, gg, s, (Po.split po).mono fun rs π1 F1 H1 t s1 p1 vs hr => ?_⟩
  unfold tupR at p1
  cases e : vals rs with
  | none => rw [e] at p1; exact p1.elim
  | some ps =>
    rw [e] at p1
    have r := vals_rps hr e
    by_cases hl : ps.length ≤ 1000000
    · simp only [if_pos hl] at p1
      refine ⟨len_line r hl, fun p hp => ?_⟩
      have gr := gr_tup (vs := vs) s1.le hp
      exact p1 _ _ gr.tr (gr.sr s1) _ (RN.rr (rv := .val (.tup ps)) s1 gr (rn_tup s1.le hp r))
    · simp only [if_neg hl] at p1; exact p1.elim
theorem p_lst (h : PA X es (tR c w f)) : PE X (.List es pos) (tE c w (lstF f)) := pe_weak (pe_lst h) fun σ H Q ⟨F, π, gg, s, po⟩ => by
  refine ⟨F, π, gg, s, (Po.split po).mono fun rs π1 F1 H1 t s1 p1 vs hr => ?_⟩
  unfold lstR at p1
  cases e : vals rs with
  | none => rw [e] at p1; exact p1.elim
  | some ps =>
    rw [e] at p1
    have r := vals_rps hr e
    by_cases hl : ps.length ≤ 1000000
    · simp only [if_pos hl] at p1
      refine ⟨len_line r hl, fun p hp => ?_⟩
      have gr : Gr F1 H1 F1 (L2.upd H1 p (.lst vs)) := gr_lst s1.le hp
      exact p1 _ _ gr.tr (gr.sr s1) _ ((RN.rr (rv := .own (.lst ps)) s1 gr (rn_lst s1.le hp r)).base t)
    · simp only [if_neg hl] at p1; exact p1.elim
end
end PV

namespace PV
open PySem L2 PyProof.Rows

/-! ### targets -/
abbrev TgF := P → En → Option En
def PoT (c : Ctx) (F : Hp) (π : En) (σ : L2.St) (H : Hp) (sl : List Nat) (o : Option En) (Q : L2.St → Hp → Prop) : Prop := match o with
  | some π' => ∀ σ', SR c F π' σ' H → Tr F π σ H F π' σ' H → (∀ j, j ∉ sl → σ'[j]? = σ[j]?) → σ'.length = σ.length → Q σ' H
  | none => False
def tG (c : Ctx) (w : Ws) (sl : List Nat) (t : TgF) : TG := fun v σ H Q => ∃ F π p, w.g F ∧ SR c F π σ H ∧ Rp c F p v ∧ PoT c F π σ H sl (t p π) Q
def tGs (c : Ctx) (w : Ws) (sl : List Nat) (t : List P → En → Option En) : TGs := fun vs σ H Q => ∃ F π ps, w.g F ∧ SR c F π σ H ∧ Rps c F ps vs ∧ PoT c F π σ H sl (t ps π) Q
def nameT (i : Nat) : TgF := fun p π => match π[i]? with
  | none => none
  | some (.loan _) => none
  | some _ => some (π.set i (.val p))
def nilT : List P → En → Option En
  | [], π => some π
  | _, _ => none
def consT (t : TgF) (u : List P → En → Option En) : List P → En → Option En
  | p :: ps, π => (t p π).bind (u ps)
  | [], _ => none
def tupT (t : List P → En → Option En) : TgF
  | .tup ps => t ps
  | _ => fun _ => none
section
variable {X : Cx} {c : Ctx} {w : Ws} {e : Expr} {es : List Expr} {pos : Pos} {t : TgF} {u : List P → En → Option En} {sl sl' : List Nat}
theorem pg_weak {X : Cx} {e : Expr} {t t' : TG} (h : PG X e t) (k : ∀ v σ H Q, t' v σ H Q → t v σ H Q) : PG X e t' := ⟨fun pins s σ H v u Q I r q => h.run pins s σ H v u Q I r (k _ _ _ _ q)⟩
theorem pgs_weak {X : Cx} {e : List Expr} {t t' : TGs} (h : PGs X e t) (k : ∀ v σ H Q, t' v σ H Q → t v σ H Q) : PGs X e t' := ⟨fun pins s σ H v u Q I r q => h.run pins s σ H v u Q I r (k _ _ _ _ q)⟩
theorem nameT_post {F H : Hp} {π : En} {σ : L2.St} {i : Nat} {p : P} {v : V} {Q : L2.St → Hp → Prop} (s : SR c F π σ H) (r : Rp c F p v) (po : PoT c F π σ H [i] (nameT i p π) Q) : Q (σ.set i (some v)) H := by
  unfold nameT at po
  cases q : π[i]? with
  | none => rw [q] at po; exact po.elim
  | some sl =>
    rw [q] at po
    have main : (∀ o, sl ≠ .loan o) → PoT c F π σ H [i] (some (π.set i (.val p))) Q → Q (σ.set i (some v)) H := fun hn po => by
      have hi : i < π.length := (List.getElem?_eq_some_iff.mp q).1
      obtain ⟨s2, t2⟩ := s.set hi (fun o z => by rw [q] at z; exact hn o (Option.some.inj z)) (.val p) (some v) (fun p' e => by cases e; exact ⟨v, rfl, r⟩) (fun o e => by cases e) (fun o e => by cases e)
      exact po _ s2 (t2 _ _ _ _ .refl fun a e ⟨o, h⟩ => by cases h) (fun j hj => List.getElem?_set_ne (by intro z; exact hj (by simp [z]))) (by simp)
    cases sl with
    | loan o => exact po.elim
    | no => exact main (fun o z => by cases z) po
    | val p => exact main (fun o z => by cases z) po
    | own o => exact main (fun o z => by cases z) po
theorem g_name {i : Nat} {x : Str} (hN : X.N.Nodup) (hi : X.N[i]? = some x) (hx : Loc X.env.scope x) (hf : X.fn x = true ∨ X.env.scope.names.lookup x = some .local := by first | exact .inl rfl | exact .inr rfl | assumption) : PG X (.Name x pos) (tG c w [i] (nameT i)) :=
  pg_weak (pg_name hN hi hx hf) fun v σ H Q ⟨F, π, p, gg, s, r, po⟩ => nameT_post s r po
theorem gs_nil : PGs X [] (tGs c w [] nilT) := pgs_weak pgs_nil fun vs σ H Q ⟨F, π, ps, gg, s, r, po⟩ => by
  cases ps with
  | nil => exact ⟨rps_nil_inv r, po σ s .refl (fun _ _ => rfl) rfl⟩
  | cons p ps => exact po.elim
theorem gs_cons (h1 : PG X e (tG c w sl t)) (h2 : PGs X es (tGs c w sl' u)) (hs : (assignEach (e :: es) X.env).map (·.2) = assign e X.env :: (assignEach es X.env).map (·.2) := by rfl) : PGs X (e :: es) (tGs c w (sl ++ sl') (consT t u)) :=
  pgs_weak (pgs_cons h1 h2 hs) fun vs σ H Q ⟨F, π, ps, gg, s, r, po⟩ => by
    cases ps with
    | nil => exact po.elim
    | cons p ps =>
      obtain ⟨v, l, rfl, r1, r2⟩ := rps_inv r
      refine ⟨v, l, rfl, F, π, p, gg, s, r1, ?_⟩
      unfold consT at po
      cases e1 : t p π with
      | none => simp only [e1, Option.bind] at po; exact po.elim
      | some π1 =>
        simp only [e1, Option.bind] at po
        intro σ1 s1 t1 k1 n1
        refine ⟨F, π1, ps, gg, s1, r2, ?_⟩
        cases e2 : u ps π1 with
        | none => rw [e2] at po; exact po.elim
        | some π2 =>
          rw [e2] at po
          intro σ2 s2 t2 k2 n2
          exact po σ2 s2 (t1.trans t2) (fun j hj => (k2 j fun z => hj (List.mem_append_right _ z)).trans (k1 j fun z => hj (List.mem_append_left _ z))) (n2.trans n1)
/-- how many parts a target wants -/
def Arity (n : Nat) (u : List P → En → Option En) : Prop := ∀ ps π π', u ps π = some π' → ps.length = n
theorem ar_nil : Arity 0 nilT := fun ps π π' h => by
  cases ps with
  | nil => rfl
  | cons p ps => cases h
theorem ar_cons {n : Nat} (h : Arity n u) : Arity (n + 1) (consT t u) := fun ps π π' e => by
  cases ps with
  | nil => cases e
  | cons p ps =>
    cases e1 : t p π with
    | none => simp only [consT, e1, Option.bind] at e; cases e
    | some π1 =>
      simp only [consT, e1, Option.bind] at e
      rw [List.length_cons, h ps π1 π' e]
theorem g_tup {k n : Nat} (hK : X.K = c.K) (hc : X.calm = true) (h : PGs X es (tGs c w sl u)) (hl : Arity n u)
    (hn : (assignEach es X.env).length = n := by rfl) (hst : (assignEach es X.env).findIdx? (·.1) = none := by rfl) : PG X (.Tuple es k pos) (tG c w sl (tupT u)) :=
  pg_weak (pg_tup (n := n) hc h hn hst) fun v σ H Q ⟨F, π, p, gg, s, r, po⟩ => by
    cases p with
    | tup ps =>
      obtain ⟨a, vs, rfl, h1, h2⟩ := rp_tup r
      refine ⟨a, vs, rfl, by rw [hK]; exact s.le.sqT h1, ?_, F, π, ps, gg, s, h2, po⟩
      rw [← rps_len h2]
      have po' : PoT c F π σ H sl (u ps π) Q := po
      cases e : u ps π with
      | none => rw [e] at po'; exact po'.elim
      | some π1 => exact hl ps π π1 e
    | _ => exact po.elim
/-- target = value -/
def asgR (t : TgF) (p : P) : M Fl := fun π => match t p π with
  | some π' => .ok .nx π'
  | none => .bad
def asgF (t : TgF) (f : M P) : M Fl := fun π => (f π).bind (asgR t)
theorem asg_post {W : WX} {F H F0 H0 : Hp} {π π0 : En} {σ : L2.St} {p : P} {v : V} {D : Ends} {g : TG} {W' : Ws} {K : L2.St → Hp → Prop} (gg : W'.g F) (s : SR c F π σ H) (r : Rp c F p v) (t0 : Tr F0 π0 σ H0 F π σ H)
    (po : PoS c W F0 π0 σ H0 (asgR t p π) (flK c D π0 σ H0)) : tG c W' sl t v σ H D.nx := by
  refine ⟨F, π, p, gg, s, r, ?_⟩
  unfold asgR at po
  cases e : t p π with
  | none => rw [e] at po; exact po.elim
  | some π' =>
    rw [e] at po
    exact fun σ' s' t' _ _ => po F σ' H (t0.trans t') s'
theorem s_asg {tg : Expr} {f : M P} (he : PE X e (tV c w f)) (hg : PG X tg (tG c w sl t)) (hs : swapsWithSole [tg] e pos.line X.env = pure false := by rfl) (hw : swappedStores [tg] e X.env = pure none := by rfl)
    (h1 : (assignEach [tg] X.env).map (·.2) = [assign tg X.env] := by rfl) : PS X (.Assign [tg] e pos) (tS c w (asgF t f)) :=
  ps_weak (ps_asg he hg hs hw h1) fun D σ H ⟨F, π, gg, s, po⟩ => by
    refine ⟨F, π, gg, s, ?_⟩
    unfold asgF at po
    cases e0 : f π with
    | bad => rw [e0] at po; exact po
    | exc C ps π1 => rw [e0] at po; exact fun F' H' d t s => po F' σ H' d t s
    | ok p π1 =>
      rw [e0] at po
      intro F1 H1 t1 s1 v hr
      exact asg_post (g := tG c w sl t) (W' := w) (K := D.nx) (w.mono _ _ t1.le gg) s1 hr t1 po
end

/-! ### what a loop walks -/
structure Wk (c : Ctx) (F : Hp) (J : It) (ps : List P) : Prop where
  stop : ∀ G, Le F G → J.stop ps.length G
  go : ∀ i G, Le F G → i < ps.length → J.go i G
  yld : ∀ (i : Nat) (p : P) (F1 G : Hp) (x : V) (G' : Hp), Le F F1 → Le F1 G → ps[i]? = some p → J.yld i G x G' → ∃ F2, Gr F1 G F2 G' ∧ Rp c F2 p x
def tI (c : Ctx) (w : Wi) (f : M (List P)) : TI := fun σ H R => ∃ F π, w.g σ F ∧ SR c F π σ H ∧ Po c w.W F π σ H (f π) (fun ps π' F' H' => ∀ J, Wk c F' J ps → ps.length ≤ sizeLine → R J H')
theorem pi_weak {X : Cx} {tg e : Expr} {t t' : TI} (h : PI X tg e t) (k : ∀ σ H Q, t' σ H Q → t σ H Q) : PI X tg e t' := ⟨fun pins s σ H Q I q => h.run pins s σ H Q I (k _ _ _ q)⟩
/-! for -/
def loopF (t : TgF) (fb : M Fl) : List P → M Fl
  | [] => fun π => .ok .nx π
  | p :: ps => fun π => match t p π with
    | none => .bad
    | some π1 => (fb π1).bind fun fl π2 => match fl with
      | .nx => loopF t fb ps π2
      | .ct => loopF t fb ps π2
      | .bk => .ok .nx π2
      | .rt r => .ok (.rt r) π2
def forF (fi : M (List P)) (t : TgF) (fb : M Fl) : M Fl := fun π => (fi π).bind (loopF t fb)
section
variable {X : Cx} {c : Ctx} {w : Ws} {tg iter : Expr} {body : List Stmt} {pos : Pos} {fi : M (List P)} {t : TgF} {fb : M Fl} {sl : List Nat}
theorem s_for (hp : PassesOwn (model X.prog X.w) X.A X.env X.xe) (hc : X.calm = true) (hi : PI X tg iter (tI c w fi)) (hg : PG X tg (tG c w sl t)) (hb : PSs X body (tS c w fb))
    (hs : ∀ x, foldedSetIterable iter X.env x = pure x := by intro _; rfl) : PS X (.For tg iter body [] pos) (tS c w (forF fi t fb)) :=
  ps_weak (ps_for hp hc hi hg hb hs) fun D σ H ⟨F, π, gg, s, po⟩ => by
    refine ⟨F, π, gg, s, (PoS.split po).mono fun ps π1 F1 H1 t1 s1 p1 J wk _ => ?_⟩
    refine ⟨fun i m σ' H' => m = ps.length - i ∧ i ≤ ps.length ∧ ∃ F' π', Le F1 F' ∧ w.g F' ∧ SR c F' π' σ' H' ∧ Tr F π σ H F' π' σ' H' ∧ PoS c w.W F' π' σ' H' (loopF t fb (ps.drop i) π') (flK c D π σ H),
      ⟨_, rfl, Nat.zero_le _, F1, π1, Le.refl _, w.mono _ _ t1.le gg, s1, t1, p1⟩, ?_⟩
    rintro i m σ' H' ⟨rfl, hi, F', π', l1, g1, s', t', po'⟩
    by_cases hlt : i < ps.length
    · refine .inr ⟨wk.go i H' (l1.trans s'.le) hlt, fun σ2 H2 => (ps.length - (i + 1)) = ps.length - (i + 1) ∧ i + 1 ≤ ps.length ∧ ∃ F' π', Le F1 F' ∧ w.g F' ∧ SR c F' π' σ2 H2 ∧ Tr F π σ H F' π' σ2 H2 ∧ PoS c w.W F' π' σ2 H2 (loopF t fb (ps.drop (i + 1)) π') (flK c D π σ H),
        fun σ2 H2 q => ⟨ps.length - (i + 1), by omega, q⟩, fun x H2 y => ?_⟩
      obtain ⟨F2, gr, rx⟩ := wk.yld i ps[i] F' H' x H2 l1 s'.le (List.getElem?_eq_getElem hlt) y
      rw [List.drop_eq_getElem_cons hlt] at po'
      have po2 := PoS.from po' (gr.tr (π := π') (σ := σ'))
      have s2 := gr.sr s'
      have t2 := t'.trans (gr.tr (π := π') (σ := σ'))
      refine ⟨F2, π', ps[i], w.mono _ _ gr.le g1, s2, rx, ?_⟩
      unfold loopF at po2
      cases e1 : t ps[i] π' with
      | none => rw [e1] at po2; exact po2.elim
      | some π2 =>
        rw [e1] at po2
        intro σ3 s3 t3 k3 n3
        have po3 := PoS.from (show PoS c w.W F2 π' σ' H2 ((fb π2).bind _) _ from po2) t3
        refine ⟨F2, π2, w.mono _ _ gr.le g1, s3, (PoS.splitS po3).mono fun fl π4 F4 σ4 H4 t4 s4 p4 => ?_⟩
        have again : PoS c w.W F4 π4 σ4 H4 (loopF t fb (ps.drop (i + 1)) π4) (flK c D π σ H) → (ps.length - (i + 1)) = ps.length - (i + 1) ∧ i + 1 ≤ ps.length ∧ ∃ F' π', Le F1 F' ∧ w.g F' ∧ SR c F' π' σ4 H4 ∧ Tr F π σ H F' π' σ4 H4 ∧ PoS c w.W F' π' σ4 H4 (loopF t fb (ps.drop (i + 1)) π') (flK c D π σ H) := fun q =>
          ⟨rfl, hlt, F4, π4, (l1.trans gr.le).trans t4.le, w.mono _ _ (gr.le.trans t4.le) g1, s4, (t2.trans t3).trans t4, q⟩
        cases fl with
        | nx => exact again p4
        | ct => exact again p4
        | bk => exact p4 F4 σ4 H4 .refl s4
        | rt r => exact flK.base (fl := .rt r) (p4 F4 σ4 H4 .refl s4) (t2.trans t3)
    · have e : i = ps.length := by omega
      subst e
      rw [List.drop_length] at po'
      exact .inl ⟨wk.stop H' (l1.trans s'.le), po' F' σ' H' .refl s'⟩
end
end PV

namespace PV
open PySem L2 PyProof.Rows

/-! ### sources -/
/-- a list or a tuple -/
def iTwo (K : PySem.W.Frag) (tl : TE) : TI := fun σ H R => tl σ H fun x H1 => (∃ a xs, x = .ref a ∧ SqL K H1 a xs ∧ (xs.length ≤ sizeLine → R (Itl K a) H1)) ∨ (∃ a xs, x = .ref a ∧ SqT K H1 a xs ∧ (xs.length ≤ sizeLine → R (Itt K a) H1))
theorem pi_two {X : Cx} {tg l : Expr} {tl : TE} (hl : PE X l tl) : PI X tg l (iTwo X.K tl) := by
  refine ⟨fun pins s σ H R I h => ?_⟩
  refine thn (hl.run pins s σ H _ I h) fun v s1 ⟨x, H1, I1, r1, q1⟩ => ?_
  rcases q1 with ⟨a, xs, e, hq, q⟩ | ⟨a, xs, e, hq, q⟩
  · subst e
    cases r1
    obtain ⟨its, rv, p, hz⟩ := I1.list hq
    refine wpAny_pyIter_list p.isList ?_
    refine ⟨s1.heap.objs.size, [s1.heap.objs.size], _, _, H1, rfl, I1.kept (t' := s1.toks) fun b o e => Heap.get?_push_of_some _ e, turn_list a _, ⟨_, Heap.get?_push_size _ rfl, rfl, rfl⟩, fun b hb => ?_, q hz⟩
    have e : b = s1.heap.objs.size := by simpa using hb
    subst e
    exact I1.fpOk (Nat.le_refl _) (I1.hok.fresh (Nat.le_refl _))
  · subst e
    cases r1
    obtain ⟨its, rv, p, hz⟩ := I1.tuple hq
    refine wpAny_pyIter_tuple (show s1.heap.IsTuple a its.toArray from p) ?_
    refine ⟨s1.heap.objs.size, [s1.heap.objs.size], _, _, H1, rfl, I1.kept (t' := s1.toks) fun b o e => Heap.get?_push_of_some _ e, turn_tuple a _, ⟨_, Heap.get?_push_size _ rfl, rfl, rfl⟩, fun b hb => ?_, q hz⟩
    have e : b = s1.heap.objs.size := by simpa using hb
    subst e
    exact I1.fpOk (Nat.le_refl _) (I1.hok.fresh (Nat.le_refl _))
section
variable {c : Ctx} {F : Hp} {a : Addr} {vs : List V} {ps : List P}
theorem get_rp (r : Rps c F ps vs) {i : Nat} {p : P} {x : V} (e : ps[i]? = some p) (e2 : vs[i]? = some x) : Rp c F p x := by
  obtain ⟨v, h1, h2⟩ := rps_get r e
  rw [e2] at h1
  cases h1
  exact h2
theorem wk_list (h : SqL c.K F a vs) (r : Rps c F ps vs) : Wk c F (Itl c.K a) ps where
  stop := fun G l => ⟨vs, l.sqL h, by rw [rps_len r]; exact Nat.le_refl _⟩
  go := fun i G l hi => ⟨vs, vs[i]'(by rw [← rps_len r]; exact hi), l.sqL h, List.getElem?_eq_getElem _⟩
  yld := fun i p F1 G x G' l1 l2 e y => by
    obtain ⟨rfl, y⟩ := y
    exact ⟨F1, Gr.refl l2, Rp.mono l1 _ _ (get_rp r e (y vs ((l1.trans l2).sqL h)))⟩
theorem wk_tup (h : SqT c.K F a vs) (r : Rps c F ps vs) : Wk c F (Itt c.K a) ps where
  stop := fun G l => ⟨vs, l.sqT h, by rw [rps_len r]; exact Nat.le_refl _⟩
  go := fun i G l hi => ⟨vs, vs[i]'(by rw [← rps_len r]; exact hi), l.sqT h, List.getElem?_eq_getElem _⟩
  yld := fun i p F1 G x G' l1 l2 e y => by
    obtain ⟨rfl, y⟩ := y
    exact ⟨F1, Gr.refl l2, Rp.mono l1 _ _ (get_rp r e (y vs ((l1.trans l2).sqT h)))⟩
end
def seqItems : P → Option (List P)
  | .lst ps => some ps
  | .tup ps => some ps
  | .nt ps => some ps
  | _ => none
def itR (p : P) : M (List P) := fun π => match seqItems p with
  | some ps => .ok ps π
  | none => .bad
def itF (f : M P) : M (List P) := fun π => (f π).bind itR
def rngP (lo hi : Int) : List P := (List.range (hi - lo).toNat).map fun (i : Nat) => P.int (lo + (i : Int))
def rng1R (rs : List Rs) : M (List P) := fun π => match rs with
  | [.val (.int j)] => if -8000000 ≤ j ∧ j ≤ 8000000 then .ok (rngP 0 j) π else .bad
  | _ => .bad
def rng2R (rs : List Rs) : M (List P) := fun π => match rs with
  | [.val (.int i), .val (.int j)] => if (-8000000 ≤ i ∧ i ≤ 8000000) ∧ -8000000 ≤ j ∧ j ≤ 8000000 then .ok (rngP i j) π else .bad
  | _ => .bad
def rng1F (fa : M (List Rs)) : M (List P) := fun π => (fa π).bind rng1R
def rng2F (fa : M (List Rs)) : M (List P) := fun π => (fa π).bind rng2R
theorem rng_len {lo hi : Int} (h1 : -8000000 ≤ lo) (h2 : hi ≤ 8000000) : (rngP lo hi).length ≤ sizeLine := by
  have := sizeLine_eq
  unfold rngP
  rw [List.length_map, List.length_range]
  omega
theorem wk_range {c : Ctx} {F : Hp} (lo hi : Int) : Wk c F (Itr lo (hi - lo).toNat) (rngP lo hi) where
  stop := fun G l => by show (hi - lo).toNat ≤ (rngP lo hi).length; unfold rngP; simp
  go := fun i G l hi' => by show i < (hi - lo).toNat; unfold rngP at hi'; simpa using hi'
  yld := fun i p F1 G x G' l1 l2 e y => by
    obtain ⟨rfl, y⟩ := y
    subst y
    refine ⟨F1, Gr.refl l2, ?_⟩
    unfold rngP at e
    rw [List.getElem?_map] at e
    cases q : (List.range (hi - lo).toNat)[i]? with
    | none => rw [q] at e; cases e
    | some j =>
      rw [q] at e
      have hj : j = i := by
        obtain ⟨h1, h2⟩ := List.getElem?_eq_some_iff.mp q
        rw [← h2]; simp
      subst hj
      cases e
      exact mk_int
section
variable {X : Cx} {c : Ctx} {w : Wi} {tg e e2 : Expr} {pos p : Pos} {f : M P} {fa : M (List Rs)}
theorem i_seq (hK : X.K = c.K) (he : PE X e (tV c w f)) : PI X tg e (tI c w (itF f)) := pi_weak (pi_two he) fun σ H R ⟨F, π, gg, s, po⟩ => by
  refine ⟨F, π, gg, s, (Po.split po).mono fun q π1 F1 H1 t1 s1 p1 v hr => ?_⟩
  rw [hK]
  unfold itR at p1
  cases q with
  | lst ps =>
    obtain ⟨a, vs, rfl, h1, h2⟩ := rp_lst hr
    exact .inl ⟨a, vs, rfl, .of (s1.le.lst h1), fun hz => p1 F1 H1 .refl s1 _ (wk_list (.of h1) h2) (by rw [rps_len h2]; exact hz)⟩
  | tup ps =>
    obtain ⟨a, vs, rfl, h1, h2⟩ := rp_tup hr
    exact .inr ⟨a, vs, rfl, s1.le.sqT h1, fun hz => p1 F1 H1 .refl s1 _ (wk_tup h1 h2) (by rw [rps_len h2]; exact hz)⟩
  | nt ps =>
    obtain ⟨a, o, vs, rfl, hd, h1, h2⟩ := rp_nt hr
    have h3 : SqT c.K F1 a vs := .inl (.inr ⟨o, h1⟩)
    exact .inr ⟨a, vs, rfl, s1.le.sqT h3, fun hz => p1 F1 H1 .refl s1 _ (wk_tup h3 h2) (by rw [rps_len h2]; exact hz)⟩
  | _ => exact p1.elim
theorem i_range1 (hg : Gl X "range") (hm : X.mg "range" = none) (ha : PA X [e] (tR c w fa)) (hs : starEach [e] X.env = [(false, eval e X.env)] := by rfl) : PI X tg (.Call (.Name "range" p) [e] [] pos) (tI c w (rng1F fa)) :=
  pi_weak (pi_range1 hg hm ha hs) fun σ H R ⟨F, π, gg, s, po⟩ => by
    refine ⟨F, π, gg, s, (Po.split po).mono fun rs π1 F1 H1 t1 s1 p1 vs hr => ?_⟩
    unfold rng1R at p1
    split at p1
    · rename_i j
      obtain ⟨v, l, rfl, h1, h2⟩ := hr
      have hl : l = [] := h2
      subst hl
      have hv : v = .int j := rp_int (show Rp c F1 (.int j) v from h1)
      subst hv
      split at p1
      · rename_i hb
        exact ⟨j, rfl, by omega, by omega, by have := p1 F1 H1 .refl s1 _ (wk_range 0 j) (rng_len (by omega) hb.2); simpa using this⟩
      · exact p1.elim
    · exact p1.elim
theorem i_range2 (hg : Gl X "range") (hm : X.mg "range" = none) (ha : PA X [e, e2] (tR c w fa)) (hs : starEach [e, e2] X.env = [(false, eval e X.env), (false, eval e2 X.env)] := by rfl) (hs2 : starEach [e2] X.env = [(false, eval e2 X.env)] := by rfl) :
    PI X tg (.Call (.Name "range" p) [e, e2] [] pos) (tI c w (rng2F fa)) :=
  pi_weak (pi_range2 hg hm ha hs hs2) fun σ H R ⟨F, π, gg, s, po⟩ => by
    refine ⟨F, π, gg, s, (Po.split po).mono fun rs π1 F1 H1 t1 s1 p1 vs hr => ?_⟩
    unfold rng2R at p1
    split at p1
    · rename_i i j
      obtain ⟨v, l, rfl, h1, v2, l2, rfl, h3, h4⟩ := hr
      have hl : l2 = [] := h4
      subst hl
      have hv : v = .int i := rp_int (show Rp c F1 (.int i) v from h1)
      have hv2 : v2 = .int j := rp_int (show Rp c F1 (.int j) v2 from h3)
      subst hv hv2
      split at p1
      · rename_i hb
        exact ⟨i, j, rfl, ⟨by omega, by omega, by omega, by omega⟩, p1 F1 H1 .refl s1 _ (wk_range i j) (rng_len hb.1.1 hb.2.2)⟩
      · exact p1.elim
    · exact p1.elim
end

/-! ### while -/
def whileF : Nat → M Bool → M Fl → M Fl
  | 0, _, _ => fun _ => .bad
  | n + 1, ft, fb => fun π => (ft π).bind fun b π1 => if b = true then (fb π1).bind (fun fl π2 => match fl with
      | .nx => whileF n ft fb π2
      | .ct => whileF n ft fb π2
      | .bk => .ok .nx π2
      | .rt r => .ok (.rt r) π2) else .ok .nx π1
theorem s_while {X : Cx} {c : Ctx} {w : Ws} {cnd : Expr} {body : List Stmt} {pos : Pos} {ft : M Bool} {fb : M Fl} (n : Nat) (hp : PassesOwn (model X.prog X.w) X.A X.env X.xe) (hc : PT X cnd (tT c w ft)) (hb : PSs X body (tS c w fb)) : PS X (.While cnd body [] pos) (tS c w (whileF n ft fb)) :=
  ps_weak (ps_while hp hc hb) fun D σ H ⟨F, π, gg, s, po⟩ => by
    refine ⟨fun m σ' H' => ∃ F' π', w.g F' ∧ SR c F' π' σ' H' ∧ Tr F π σ H F' π' σ' H' ∧ PoS c w.W F' π' σ' H' (whileF m ft fb π') (flK c D π σ H), ⟨n, F, π, gg, s, .refl, po⟩, ?_⟩
    rintro m σ1 H1 ⟨F1, π1, g1, s1, t1, p1⟩
    cases m with
    | zero => exact p1.elim
    | succ m =>
      refine ⟨F1, π1, g1, s1, (PoS.split p1).mono fun b π2 F2 H2 t2 s2 p2 => ?_⟩
      cases b with
      | false =>
        rw [if_neg Bool.false_ne_true] at p2 ⊢
        exact p2 F2 σ1 H2 .refl s2
      | true =>
        rw [if_pos rfl] at p2 ⊢
        refine ⟨fun σ' H' => ∃ F' π', w.g F' ∧ SR c F' π' σ' H' ∧ Tr F π σ H F' π' σ' H' ∧ PoS c w.W F' π' σ' H' (whileF m ft fb π') (flK c D π σ H), fun σ' H' q => ⟨m, Nat.lt_succ_self m, q⟩, ?_⟩
        refine ⟨F2, π2, w.mono _ _ t2.le g1, s2, (PoS.splitS p2).mono fun fl π4 F4 σ4 H4 t4 s4 p4 => ?_⟩
        cases fl with
        | nx => exact ⟨F4, π4, w.mono _ _ (t2.le.trans t4.le) g1, s4, (t1.trans t2).trans t4, p4⟩
        | ct => exact ⟨F4, π4, w.mono _ _ (t2.le.trans t4.le) g1, s4, (t1.trans t2).trans t4, p4⟩
        | bk => exact p4 F4 σ4 H4 .refl s4
        | rt r => exact flK.base (fl := .rt r) (p4 F4 σ4 H4 .refl s4) (t1.trans t2)

/-! ### comprehensions -/
/-- the slots of a comprehension's own names, emptied; put back -/
def wipeE (π : En) : List Nat → En
  | [] => π
  | v :: vs => (wipeE π vs).set v .no
def restE (π0 π : En) (vs : List Nat) : En := π.mapIdx fun j sl => if j ∈ vs then (match π0[j]? with
    | some (.val p) => .val p
    | _ => .no) else sl
def chk (vs : List Nat) (π : En) : Bool := vs.all fun v => match π[v]? with
  | none => false
  | some (.loan _) => false
  | some _ => true
/-- no exception may leave it -/
def lcLoop (t : TgF) (tt : M Bool) (fe : M P) (vs : List Nat) (π0 : En) : List P → List P → En → Out Rs
  | [], acc, π => .ok (.own (.lst acc)) (restE π0 π vs)
  | p :: ps, acc, π => match t p π with
    | none => .bad
    | some π1 => match tt π1 with
      | .ok false π2 => if chk vs π2 = true then lcLoop t tt fe vs π0 ps acc (wipeE π2 vs) else .bad
      | .ok true π2 => (match fe π2 with
        | .ok q π3 => if chk vs π3 = true then lcLoop t tt fe vs π0 ps (acc ++ [q]) (wipeE π3 vs) else .bad
        | _ => .bad)
      | _ => .bad
def lcF (fi : M (List P)) (t : TgF) (tt : M Bool) (fe : M P) (vs : List Nat) : M Rs := fun π => (fi π).bind fun ps π1 => if chk vs π1 = true then lcLoop t tt fe vs π1 ps [] (wipeE π1 vs) else .bad
def Ws.blk (w : Ws) : Ws := ⟨fun _ _ _ _ => False, w.g, w.mono⟩
section
variable {c : Ctx} {F F' H H' F0 H0 : Hp} {π π' π0 : En} {σ σ0 : L2.St} {vs : List Nat}
theorem wipeE_get : ∀ {vs : List Nat} {j : Nat}, (wipeE π vs)[j]? = if j ∈ vs ∧ j < π.length then some .no else π[j]?
  | [], j => by simp [wipeE]
  | v :: vs, j => by
    unfold wipeE
    have hl : (wipeE π vs).length = π.length := by
      clear wipeE_get
      induction vs with
      | nil => rfl
      | cons v vs ih => unfold wipeE; rw [List.length_set]; exact ih
    rw [List.getElem?_set, wipeE_get (vs := vs), hl]
    by_cases z : v = j
    · subst z
      by_cases h : v < π.length
      · simp [h]
      · simp [h]
    · by_cases h : j ∈ vs ∧ j < π.length
      · rw [if_neg z, if_pos h, if_pos ⟨List.mem_cons_of_mem _ h.1, h.2⟩]
      · rw [if_neg z, if_neg h, if_neg]
        rintro ⟨h1, h2⟩
        rcases List.mem_cons.mp h1 with e | e
        · exact z e.symm
        · exact h ⟨e, h2⟩
theorem wipe_get {σ : L2.St} : ∀ {vs : List Nat} {j : Nat}, (wipe σ vs)[j]? = if j ∈ vs ∧ j < σ.length then some none else σ[j]?
  | [], j => by simp [wipe]
  | v :: vs, j => by
    unfold wipe
    rw [List.getElem?_set, wipe_get (vs := vs), wipe_length]
    by_cases z : v = j
    · subst z
      by_cases h : v < σ.length
      · simp [h]
      · simp [h]
    · by_cases h : j ∈ vs ∧ j < σ.length
      · rw [if_neg z, if_pos h, if_pos ⟨List.mem_cons_of_mem _ h.1, h.2⟩]
      · rw [if_neg z, if_neg h, if_neg]
        rintro ⟨h1, h2⟩
        rcases List.mem_cons.mp h1 with e | e
        · exact z e.symm
        · exact h ⟨e, h2⟩
theorem chk_at (h : chk vs π = true) {v : Nat} (hv : v ∈ vs) : v < π.length ∧ ∀ o, π[v]? ≠ some (.loan o) := by
  have := List.all_eq_true.mp h v hv
  cases q : π[v]? with
  | none => rw [q] at this; cases this
  | some sl =>
    refine ⟨(List.getElem?_eq_some_iff.mp q).1, fun o e => ?_⟩
    cases e
    rw [q] at this; cases this
theorem wipe_ok (s : SR c F π σ H) : ∀ (vs : List Nat), (∀ v ∈ vs, v < π.length ∧ ∀ o, π[v]? ≠ some (.loan o)) → SR c F (wipeE π vs) (wipe σ vs) H ∧ ∀ F0 π0 σ0 H0, Tr F0 π0 σ0 H0 F π σ H → Tr F0 π0 σ0 H0 F (wipeE π vs) (wipe σ vs) H
  | [], _ => ⟨s, fun _ _ _ _ t => t⟩
  | v :: vs, h => by
    obtain ⟨s1, t1⟩ := wipe_ok s vs fun v' hv => h v' (List.mem_cons_of_mem _ hv)
    have hl : (wipeE π vs).length = π.length := by rw [s1.len, wipe_length, s.len]
    obtain ⟨h1, h2⟩ := h v List.mem_cons_self
    obtain ⟨s2, t2⟩ := s1.set (i := v) (by rw [hl]; exact h1) (fun o e => by
      rw [wipeE_get] at e
      split at e
      · cases e
      · exact h2 o e) .no none (fun p e => by cases e) (fun o e => by cases e) (fun o e => by cases e)
    exact ⟨s2, fun F0 π0 σ0 H0 t => t2 _ _ _ _ (t1 _ _ _ _ t) fun a e => by cases e⟩
/-- back in the comprehension's surroundings -/
theorem rest_ok (s : SR c F π σ H) (hc : chk vs π = true) (s' : SR c F' π' (wipe σ vs) H') (t : Tr F (wipeE π vs) (wipe σ vs) H F' π' (wipe σ vs) H') : SR c F' (restE π π' vs) σ H' ∧ Tr F π σ H F' (restE π π' vs) σ H' ∧ ∀ a, Own (restE π π' vs) σ a → Own π' (wipe σ vs) a := by
  have gr : ∀ j, (restE π π' vs)[j]? = (π'[j]?).map fun sl => if j ∈ vs then (match π[j]? with
    | some (.val p) => .val p
    | _ => .no) else sl := fun j => by unfold restE; rw [List.getElem?_mapIdx]
  have ow : ∀ (j : Nat) (sl : Sl) (o : O), (restE π π' vs)[j]? = some sl → sl.ow = some o → j ∉ vs ∧ π'[j]? = some sl := fun j sl o e1 e2 => by
    rw [gr] at e1
    cases q : π'[j]? with
    | none => rw [q] at e1; cases e1
    | some sl' =>
      rw [q] at e1
      by_cases z : j ∈ vs
      · have e3 : (match π[j]? with | some (.val p) => Sl.val p | _ => .no) = sl := by
          have := Option.some.inj e1
          simp only [if_pos z] at this
          exact this
        cases q2 : π[j]? with
        | none => rw [q2] at e3; subst e3; cases e2
        | some sl2 => rw [q2] at e3; cases sl2 <;> (subst e3; cases e2)
      · have e3 := Option.some.inj e1
        simp only [if_neg z] at e3
        exact ⟨z, by rw [e3]⟩
  have sg : ∀ j, j ∉ vs → (wipe σ vs)[j]? = σ[j]? := fun j z => by rw [wipe_get, if_neg fun h => z h.1]
  have ownW : ∀ a, Own (wipeE π vs) (wipe σ vs) a → Own π σ a := fun a ⟨j, sl, o, e1, e2, e3⟩ => by
    rw [wipeE_get] at e1
    rw [wipe_get] at e3
    split at e1
    · cases e1; cases e2
    · split at e3
      · cases e3
      · exact ⟨j, sl, o, e1, e2, e3⟩
  have ownR : ∀ a, Own (restE π π' vs) σ a → Own π' (wipe σ vs) a := fun a ⟨j, sl, o, e1, e2, e3⟩ => by
    obtain ⟨z, h1⟩ := ow j sl o e1 e2
    exact ⟨j, sl, o, h1, e2, by rw [sg j z]; exact e3⟩
  refine ⟨⟨s'.le, by unfold restE; rw [List.length_mapIdx, s'.len, wipe_length], fun j p e => ?_, fun j sl o e1 e2 => ?_, fun j k s1 s2 o1 o2 b e1 e2 e3 e4 e5 e6 => ?_⟩,
    ⟨t.le, fun a o h n => t.keep a o h fun z => n (ownW a z), fun a h => (t.new a h).imp id (Or.imp id (ownW a)), fun a h => (t.own a (ownR a h)).imp id (ownW a), fun j o e => ⟨rfl, ?_⟩⟩, ownR⟩
  · rw [gr] at e
    cases q : π'[j]? with
    | none => rw [q] at e; cases e
    | some sl' =>
      rw [q] at e
      have e3 := Option.some.inj e
      by_cases z : j ∈ vs
      · simp only [if_pos z] at e3
        cases q2 : π[j]? with
        | none => rw [q2] at e3; cases e3
        | some sl2 =>
          rw [q2] at e3
          cases sl2 with
          | val p' =>
            cases e3
            obtain ⟨v, e4, h1⟩ := s.vl j p q2
            exact ⟨v, e4, Rp.mono t.le _ _ h1⟩
          | no => cases e3
          | own o => cases e3
          | loan o => cases e3
      · simp only [if_neg z] at e3
        subst e3
        rw [← sg j z]
        exact s'.vl j p q
  · obtain ⟨z, h1⟩ := ow j sl o e1 e2
    rw [← sg j z]
    exact s'.ow j sl o h1 e2
  · obtain ⟨z1, h1⟩ := ow j s1 o1 e1 e2
    obtain ⟨z2, h2⟩ := ow k s2 o2 e3 e4
    exact s'.dj j k s1 s2 o1 o2 b h1 e2 h2 e4 (by rw [sg j z1]; exact e5) (by rw [sg k z2]; exact e6)
  · have z : j ∉ vs := fun z => (chk_at hc z).2 o e
    obtain ⟨_, o', h1⟩ := t.ln j o (by rw [wipeE_get, if_neg fun h => z h.1]; exact e)
    exact ⟨o', by rw [gr, h1]; show some (if j ∈ vs then _ else _) = _; rw [if_neg z]⟩
end
section
variable {c : Ctx} {F F0 H H0 : Hp} {π π0 : En} {σ σ0 : L2.St} {D : Addr} {o : HO}
theorem SR.other (s : SR c F π σ H) (hF : F D = none) (hn : ¬ Own π σ D) : SR c F π σ (L2.upd H D o) where
  le := s.le.updR _ hF
  len := s.len
  vl := s.vl
  ow := fun i sl o e1 e2 => by
    obtain ⟨b, e3, h1, h2⟩ := s.ow i sl o e1 e2
    exact ⟨b, e3, h1, h2.step (Le.refl F) fun u q => by rw [upd_ne fun z => hn ⟨i, sl, o, e1, e2, by rw [← z]; exact e3⟩]; exact q⟩
  dj := s.dj
theorem Tr.other (t : Tr F0 π0 σ0 H0 F π σ H) (h0 : H0 D = none) : Tr F0 π0 σ0 H0 F π σ (L2.upd H D o) :=
  ⟨t.le, fun a u h n => by rw [upd_ne (ne_of_none h h0)]; exact t.keep a u h n, t.new, t.own, t.ln⟩
end
def LcInv (c : Ctx) (w : Ws) (t : TgF) (tt : M Bool) (fe : M P) (vs : List Nat) (F1 : Hp) (π1 : En) (σ : L2.St) (H1 : Hp) (ps : List P) (K : Rs → En → Hp → Hp → Prop) (D : Addr) (i : Nat) (H' : Hp) : Prop :=
  ∃ F' π' acc va, Le F1 F' ∧ w.g F' ∧ SR c F' π' (wipe σ vs) H' ∧ H' D = some (.lst va) ∧ Rps c F' acc va ∧ acc.length ≤ i ∧ F' D = none ∧ ¬ Own π' (wipe σ vs) D ∧ Tr F1 (wipeE π1 vs) (wipe σ vs) H1 F' π' (wipe σ vs) H' ∧
    Po c w.W F1 π1 σ H1 (lcLoop t tt fe vs π1 (ps.drop i) acc π') K
section
variable {X : Cx} {c : Ctx} {w : Ws} {elt tg iter : Expr} {ifs : List Expr} {scope : Scope} {own : List (Str × Nat)} {pos : Pos} {fi : M (List P)} {t : TgF} {ft : M Bool} {fe : M P} {sl : List Nat}
theorem wipe_same {σ σ2 : L2.St} {vs : List Nat} (h : ∀ j, j ∉ vs → σ2[j]? = (wipe σ vs)[j]?) (hl : σ2.length = σ.length) : wipe σ2 vs = wipe σ vs := by
  apply List.ext_getElem?
  intro j
  rw [wipe_get, wipe_get, hl]
  by_cases z : j ∈ vs
  · by_cases q : j < σ.length
    · rw [if_pos ⟨z, q⟩, if_pos ⟨z, q⟩]
    · rw [if_neg fun h => q h.2, if_neg fun h => q h.2, List.getElem?_eq_none (by omega), List.getElem?_eq_none (by omega)]
  · rw [if_neg fun h => z h.1, if_neg fun h => z h.1, h j z, wipe_get, if_neg fun h => z h.1]
theorem lc_weak (hsl : ∀ j ∈ sl, j ∈ own.map (·.2)) : ∀ σ H Q, tE c w (lcF fi t ft fe (own.map (·.2))) σ H Q → tLc (tI c w fi) (tG c w.blk sl t) (tT c w.blk ft) (tV c w.blk fe) (own.map (·.2)) σ H Q := fun σ H Q ⟨F, π, gg, s, po⟩ => by
  generalize own.map (·.2) = vs at *
  refine ⟨F, π, gg, s, (Po.split po).mono fun ps π1 F1 H1 t1 s1 p1 J wk hlen D hD => ?_⟩
  by_cases hc : chk vs π1 = true
  case neg => rw [if_neg hc] at p1; exact p1.elim
  rw [if_pos hc] at p1
  have g1 := w.mono _ _ t1.le gg
  have gD : Gr F1 H1 F1 (L2.upd H1 D (.lst [])) := gr_lst s1.le hD
  obtain ⟨sw, tw⟩ := wipe_ok s1 vs fun v hv => chk_at hc hv
  have tw1 := tw _ _ _ _ (Tr.refl (F := F1) (π := π1) (σ := σ) (H := H1))
  have ownW : ∀ a, Own (wipeE π1 vs) (wipe σ vs) a → Own π1 σ a := fun a ⟨j, sl, o, e1, e2, e3⟩ => by
    rw [wipeE_get] at e1
    rw [wipe_get] at e3
    split at e1
    · cases e1; cases e2
    · split at e3
      · cases e3
      · exact ⟨j, sl, o, e1, e2, e3⟩
  refine ⟨fun i m H' => m = ps.length - i ∧ i ≤ ps.length ∧ LcInv c w t ft fe vs F1 π1 σ H1 ps (fun r π' F' H' => ∀ v, RR c π H F' π' σ H' r v → Q v H') D i H',
    ⟨_, rfl, Nat.zero_le _, F1, wipeE π1 vs, [], [], Le.refl _, g1, gD.sr sw, upd_same, rps_nil, Nat.le_refl _, s1.le.gone hD, fun z => ?_, gD.tr, p1⟩, ?_⟩
  · obtain ⟨u, hu⟩ := own_some sw z
    rw [hD] at hu; cases hu
  rintro i m H' ⟨rfl, hi, F', π', acc, va, l1, g', s', hDa, ra, hal, hFD, hnD, t', po'⟩
  by_cases hlt : i < ps.length
  · refine .inr ⟨wk.go i H' (l1.trans s'.le) hlt, fun H2 => (ps.length - (i + 1)) = ps.length - (i + 1) ∧ i + 1 ≤ ps.length ∧ LcInv c w t ft fe vs F1 π1 σ H1 ps (fun r π' F' H' => ∀ v, RR c π H F' π' σ H' r v → Q v H') D (i + 1) H2,
      fun H2 q => ⟨ps.length - (i + 1), by omega, q⟩, fun x H2 y => ?_⟩
    obtain ⟨F2, gr, rx⟩ := wk.yld i ps[i] F' H' x H2 l1 s'.le (List.getElem?_eq_getElem hlt) y
    rw [List.drop_eq_getElem_cons hlt] at po'
    have s2 := gr.sr s'
    have t2 := t'.trans (gr.tr (π := π') (σ := wipe σ vs))
    have hD2 : H2 D = some (.lst va) := gr.keep D _ hDa
    have hF2 : F2 D = none := by
      cases q : F2 D with
      | none => rfl
      | some x =>
        rcases gr.new D (by rw [q]; exact fun z => nomatch z) with z | z
        · exact absurd hFD z
        · rw [hDa] at z; cases z
    refine ⟨F2, π', ps[i], w.mono _ _ gr.le g', s2, rx, ?_⟩
    unfold lcLoop at po'
    cases e1 : t ps[i] π' with
    | none => simp only [e1] at po'; exact po'.elim
    | some π2 =>
      simp only [e1] at po'
      intro σ3 s3 t3 k3 n3
      have hw : wipe σ3 vs = wipe σ vs := wipe_same (fun j z => k3 j fun q => z (hsl j q)) (by rw [n3, wipe_length])
      have tb : Tr F' π' (wipe σ vs) H' F2 π2 σ3 H2 := (gr.tr (π := π') (σ := wipe σ vs)).trans t3
      refine ⟨hw, F2, π2, w.mono _ _ gr.le g', s3, ?_⟩
      -- where a turn ends
      have fin : ∀ {π4 : En} {F4 H4 : Hp}, chk vs π4 = true → Tr F2 π2 σ3 H2 F4 π4 σ3 H4 → SR c F4 π4 σ3 H4 → SR c F4 (wipeE π4 vs) (wipe σ vs) H4 ∧ Tr F1 (wipeE π1 vs) (wipe σ vs) H1 F4 (wipeE π4 vs) (wipe σ vs) H4 ∧ H4 D = some (.lst va) ∧ F4 D = none ∧ ¬ Own (wipeE π4 vs) (wipe σ vs) D := fun {π4 F4 H4} hc4 t4 s4 => by
        obtain ⟨s6, t6⟩ := wipe_ok s4 vs fun v hv => chk_at hc4 hv
        have tl := t6 _ _ _ _ (tb.trans t4)
        rw [hw] at s6 tl
        refine ⟨s6, t'.trans tl, tl.keep D _ hDa hnD, ?_, fun z => ?_⟩
        · cases q : F4 D with
          | none => rfl
          | some x =>
            rcases tl.new D (by rw [q]; exact fun z => nomatch z) with z | z | z
            · exact absurd hFD z
            · rw [hDa] at z; cases z
            · exact absurd z hnD
        · rcases tl.own D z with q | q
          · rw [hDa] at q; cases q
          · exact hnD q
      cases e2 : ft π2 with
      | bad => simp only [e2] at po'; exact po'.elim
      | exc C qs π4 => simp only [e2] at po'; exact po'.elim
      | ok b π4 =>
        intro F4 H4 t4 s4
        have l4 : Le F1 F4 := (l1.trans gr.le).trans t4.le
        have g4 := w.mono _ _ (gr.le.trans t4.le) g'
        cases b with
        | false =>
          simp only [e2] at po'
          by_cases hc4 : chk vs π4 = true
          case neg => rw [if_neg hc4] at po'; exact po'.elim
          rw [if_pos hc4] at po'
          obtain ⟨s6, tl, d1, d2, d3⟩ := fin hc4 t4 s4
          refine iteF ?_
          exact ⟨rfl, hlt, F4, _, acc, va, l4, g4, s6, d1, Rps.mono (gr.le.trans t4.le) _ _ ra, by omega, d2, d3, tl, po'⟩
        | true =>
          simp only [e2] at po'
          refine iteT ?_
          refine ⟨F4, π4, g4, s4, ?_⟩
          cases e3 : fe π4 with
          | bad => simp only [e3] at po'; exact po'.elim
          | exc C qs π5 => simp only [e3] at po'; exact po'.elim
          | ok q π5 =>
            simp only [e3] at po'
            by_cases hc5 : chk vs π5 = true
            case neg => rw [if_neg hc5] at po'; exact po'.elim
            rw [if_pos hc5] at po'
            intro F5 H5 t5 s5 y hy
            obtain ⟨s6, tl, d1, d2, d3⟩ := fin hc5 (t4.trans t5) s5
            have hva : va.length = acc.length := (rps_len ra).symm
            refine ⟨va, d1, by omega, rfl, hlt, F5, _, acc ++ [q], va ++ [y], l4.trans t5.le, w.mono _ _ t5.le g4, s6.other d2 d3, upd_same, rps_append (Rps.mono ((gr.le.trans t4.le).trans t5.le) _ _ ra) (rps_cons hy rps_nil), by simp; omega, d2, d3, tl.other hD, po'⟩
  · have e : i = ps.length := by omega
    subst e
    rw [List.drop_length] at po'
    obtain ⟨s5, t5, ow5⟩ := rest_ok s1 hc s' t'
    exact .inl ⟨wk.stop H' (l1.trans s'.le), po' F' H' t5 s5 _ ⟨D, rfl, hFD, fun z => hnD (ow5 D z), ⟨va, hDa, ra⟩, Fr0.back t1 (.inl hD)⟩⟩
theorem p_lc (hsl : ∀ j ∈ sl, j ∈ own.map (·.2)) (hc : X.calm = true) (hN : X.N.Nodup) (hi : PI X tg iter (tI c w fi)) (ok : BlkOk X.N X.env.scope scope own)
    (hg : ∀ (s : Shared) (H : Hp) (C : Addr) (cl : List (Str × Addr)) (fp : List Addr), PG (X.blk s H scope (compEnvC scope cl C X.env) fp) tg (tG c w.blk sl t)) (ht : ∀ (s : Shared) (H : Hp) (C : Addr) (cl : List (Str × Addr)) (fp : List Addr), PTs (X.blk s H scope (compEnvC scope cl C X.env) fp) ifs (tT c w.blk ft))
    (he : ∀ (s : Shared) (H : Hp) (C : Addr) (cl : List (Str × Addr)) (fp : List Addr), PE (X.blk s H scope (compEnvC scope cl C X.env) fp) elt (tV c w.blk fe)) (hs : ∀ x, foldedSetIterable iter X.env x = pure x := by intro _; rfl) :
    PE X (.ListComp elt [⟨tg, iter, ifs, 0⟩] scope pos) (tE c w (lcF fi t ft fe (own.map (·.2)))) := pe_weak (pe_lc hc hN hi ok hg ht he hs) (lc_weak hsl)
def yesF : M Bool := fun π => .ok true π
theorem t_yes {X : Cx} {c : Ctx} {w : Ws} : PTs X [] (tT c w yesF) := ⟨fun pins s σ H Q I ⟨F, π, gg, sr, po⟩ => pts_nil.run pins s σ H Q I (po F H .refl sr)⟩
theorem t_one {X : Cx} {c : Ctx} {w : Ws} {e : Expr} {f : M Bool} (h : PT X e (tT c w f)) : PTs X [e] (tT c w f) := pts_one h
/-- y = [..] on one line -/
theorem s_setLc {i : Nat} {y : Str} {py spos : Pos} (hsl : ∀ j ∈ sl, j ∈ own.map (·.2)) (hc : X.calm = true) (hN : X.N.Nodup) (hy : X.N[i]? = some y) (hyl : X.env.scope.names.lookup y = some .local)
    (hsw : swapsWith (.ListComp elt [⟨tg, iter, ifs, 0⟩] scope pos) (some (.Name y py)) spos.line X.env = pure true) (hi : PI X tg iter (tI c w fi)) (ok : BlkOk X.N X.env.scope scope own)
    (hg : ∀ (s : Shared) (H : Hp) (C : Addr) (cl : List (Str × Addr)) (fp : List Addr), PG (X.blk s H scope (compEnvC scope cl C X.env) fp) tg (tG c w.blk sl t)) (ht : ∀ (s : Shared) (H : Hp) (C : Addr) (cl : List (Str × Addr)) (fp : List Addr), PTs (X.blk s H scope (compEnvC scope cl C X.env) fp) ifs (tT c w.blk ft))
    (he : ∀ (s : Shared) (H : Hp) (C : Addr) (cl : List (Str × Addr)) (fp : List Addr), PE (X.blk s H scope (compEnvC scope cl C X.env) fp) elt (tV c w.blk fe)) (hs : ∀ x, foldedSetIterable iter X.env x = pure x := by intro _; rfl) :
    PS X (.Assign [.Name y py] (.ListComp elt [⟨tg, iter, ifs, 0⟩] scope pos) spos) (tS c w (setF i (lcF fi t ft fe (own.map (·.2))))) :=
  ps_weak (ps_setLc (i := i) hc hN hy hyl hsw hi ok hg ht he hs) fun D σ H ⟨F, π, gg, s, po⟩ => by
    refine lc_weak hsl σ H _ ⟨F, π, gg, s, ?_⟩
    unfold setF at po
    cases e0 : lcF fi t ft fe (own.map (·.2)) π with
    | bad => rw [e0] at po; exact po
    | exc C ps π1 => rw [e0] at po; exact fun F' H' d t s => po F' σ H' d t s
    | ok r π1 =>
      rw [e0] at po
      intro F1 H1 t s1 v hr
      obtain ⟨π', k⟩ := set_post s1 hr t po
      exact k
end
end PV

namespace PV
open PySem L2 PyProof.Rows

theorem OpR.or {X : Cx} {f : Value → Value → Sem Value} {r r' : R2} (h : OpR X f r) (h' : OpR X f r') : OpR X f (fun x y H Q => r x y H Q ∨ r' x y H Q) := by
  intro pins s σ H x y v u Q I rx ry q
  rcases q with q | q
  · exact h pins s σ H x y v u Q I rx ry q
  · exact h' pins s σ H x y v u Q I rx ry q
theorem CallR.or {X : Cx} {f : Value} {r r' : List V → Hp → VK → Prop} (h : CallR X f r) (h' : CallR X f r') : CallR X f (fun x H Q => r x H Q ∨ r' x H Q) := by
  intro pins s σ H x v Q I rx q
  rcases q with q | q
  · exact h pins s σ H x v Q I rx q
  · exact h' pins s σ H x v Q I rx q
abbrev ib (b : Bool) : Option Rv := some (.val (.bl b))
abbrev ii (i : Int) : Option Rv := some (.val (.int i))
section
variable {c : Ctx} {F H : Hp} {Q : VK} {v : V}
/-- the answer is a value without objects -/
theorem give {p : P} (l : Le F H) (k : ∀ v F' H', Gr F H F' H' → RN c H F' H' (.val p) v → Q v H') (h : Rp c F p v) : Q v H := k v F H (Gr.refl l) h
end

/-! ### + -/
def addP : P → P → Option Rv
  | .int i, .int j => ii (i + j)
  | .str x, .str y => if x.length + y.length ≤ 1000000 then some (.val (.str (x ++ y))) else none
  | .tup xs, .tup ys => if xs.length + ys.length ≤ 1000000 then some (.val (.tup (xs ++ ys))) else none
  | .lst xs, .lst ys => if xs.length + ys.length ≤ 1000000 then some (.own (.lst (xs ++ ys))) else none
  | _, _ => none
def rAdd4 (K : PySem.W.Frag) : R2 := fun x y H Q => (rI0 (fun i j => .int (i + j)) x y H Q ∨ (∃ i j, x = .str i ∧ y = .str j ∧ i.length + j.length ≤ sizeLine ∧ Q (.str (i ++ j)) H)) ∨ (rCatA K x y H Q ∨ rCat x y H Q)
theorem op_add4 {X : Cx} : OpR X (binaryOp .Add) (rAdd4 X.K) := OpR.or (OpR.or op_add op_add_str) (OpR.or op_catA op_cat)
theorem v_add {c : Ctx} : OpV c (rAdd4 c.K) addP := by
  intro F H p1 p2 x y res Q l h1 h2 e k
  have hs := sizeLine_eq
  unfold addP at e
  split at e
  · cases e
    cases h1.int; cases h2.int
    exact .inl (.inl ⟨_, _, rfl, rfl, give l k mk_int⟩)
  · split at e
    · cases e
      cases h1.str; cases h2.str
      exact .inl (.inr ⟨_, _, rfl, rfl, by omega, give l k mk_str⟩)
    · cases e
  · split at e
    · rename_i xs ys hl
      cases e
      obtain ⟨a, vs, rfl, q1, r1, p1⟩ := h1.tup l
      obtain ⟨b, ws, rfl, q2, r2, p2⟩ := h2.tup l
      have n1 := rps_len r1
      have n2 := rps_len r2
      refine .inr (.inl ⟨a, b, vs, ws, rfl, rfl, q1, q2, by omega, fun z => ?_, fun _ z => ?_, fun _ _ p hp => ?_⟩)
      · have z1 : xs = [] := List.eq_nil_of_length_eq_zero (by rw [n1, z]; rfl)
        subst z1
        exact give l k p2
      · have z1 : ys = [] := List.eq_nil_of_length_eq_zero (by rw [n2, z]; rfl)
        subst z1
        exact give l k (by rw [List.append_nil]; exact p1)
      · exact k _ _ _ (gr_tup l hp) (rn_tup l hp (rps_append r1 r2))
    · cases e
  · split at e
    · rename_i xs ys hl
      cases e
      obtain ⟨a, vs, rfl, q1, r1⟩ := h1.lst l
      obtain ⟨b, ws, rfl, q2, r2⟩ := h2.lst l
      have n1 := rps_len r1
      have n2 := rps_len r2
      exact .inr (.inr ⟨a, b, vs, ws, rfl, rfl, q1, q2, by omega, fun p hp => k _ _ _ (gr_lst l hp) (rn_lst l hp (rps_append r1 r2))⟩)
    · cases e
  · cases e
/-! ### ints -/
def subP : P → P → Option Rv
  | .int i, .int j => ii (i - j)
  | _, _ => none
theorem v_sub {c : Ctx} : OpV c (rI0 fun i j => .int (i - j)) subP := by
  intro F H p1 p2 x y res Q l h1 h2 e k
  unfold subP at e
  split at e
  · cases e
    cases h1.int; cases h2.int
    exact ⟨_, _, rfl, rfl, give l k mk_int⟩
  · cases e
def mulP : P → P → Option Rv
  | .int i, .int j => if i.natAbs.log2 + j.natAbs.log2 < 1000000 then ii (i * j) else none
  | .lst xs, .int j => if xs.length ≤ 1000 ∧ -1000 ≤ j ∧ j ≤ 1000 then some (.own (.lst (List.replicate j.toNat xs).flatten)) else none
  | .tup xs, .int j => if xs ≠ [] ∧ xs.length ≤ 1000 ∧ 2 ≤ j ∧ j ≤ 1000 then some (.val (.tup (List.replicate j.toNat xs).flatten)) else none
  | _, _ => none
theorem rps_rep {c : Ctx} {H : Hp} {ps : List P} {vs : List V} (r : Rps c H ps vs) : ∀ n : Nat, Rps c H (List.replicate n ps).flatten (List.replicate n vs).flatten
  | 0 => rps_nil
  | n + 1 => by
    rw [List.replicate_succ, List.replicate_succ, List.flatten_cons, List.flatten_cons]
    exact rps_append r (rps_rep r n)

def rMul3 (K : PySem.W.Frag) : R2 := fun x y H Q => rI CMulW (fun i j => .int (i * j)) x y H Q ∨ (rRep x y H Q ∨ rRepT K x y H Q)
theorem op_mul3 {X : Cx} : OpR X (binaryOp .Mult) (rMul3 X.K) := OpR.or op_mulW (OpR.or op_rep op_repT)
theorem v_mul {c : Ctx} : OpV c (rMul3 c.K) mulP := by
  intro F H p1 p2 x y res Q l h1 h2 e k
  have hs := sizeLine_eq
  unfold mulP at e
  split at e
  · split at e
    · rename_i hb
      cases e
      cases h1.int; cases h2.int
      exact .inl ⟨_, _, rfl, rfl, hb, give l k mk_int⟩
    · cases e
  · split at e
    · rename_i xs j hb
      cases e
      obtain ⟨a, vs, rfl, q1, r1⟩ := h1.lst l
      cases h2.int
      have n1 := rps_len r1
      refine .inr (.inl ⟨a, j, vs, rfl, rfl, q1, by omega, by omega, ?_, fun p hp => k _ _ _ (gr_lst l hp) (rn_lst l hp (rps_rep r1 _))⟩)
      have a1 : vs.length * j.toNat ≤ 1000 * 1000 := Nat.mul_le_mul (by omega) (by omega)
      omega
    · cases e
  · split at e
    · rename_i xs j hb
      cases e
      obtain ⟨a, vs, rfl, q1, r1, _⟩ := h1.tup l
      cases h2.int
      have n1 := rps_len r1
      exact .inr (.inr ⟨a, j, vs, rfl, rfl, q1, fun z => hb.1 (List.eq_nil_of_length_eq_zero (by rw [n1, z]; rfl)), hb.2.2.1, hb.2.2.2, by omega, fun p hp => k _ _ _ (gr_tup l hp) (rn_tup l hp (rps_rep r1 _))⟩)
    · cases e
  · cases e
def modP : P → P → Option Rv
  | .int i, .int j => if 0 < j then ii (i % j) else none
  | _, _ => none
theorem v_mod {c : Ctx} : OpV c (rI (fun _ j => 0 < j) fun i j => .int (i % j)) modP := by
  intro F H p1 p2 x y res Q l h1 h2 e k
  unfold modP at e
  split at e
  · split at e
    · rename_i hb
      cases e
      cases h1.int; cases h2.int
      exact ⟨_, _, rfl, rfl, hb, give l k mk_int⟩
    · cases e
  · cases e
def fdivP : P → P → Option Rv
  | .int i, .int j => if 0 < j ∧ j.natAbs.log2 < 9000 then ii (i / j) else none
  | _, _ => none
theorem v_fdiv {c : Ctx} : OpV c (rI CDivW fun i j => .int (i / j)) fdivP := by
  intro F H p1 p2 x y res Q l h1 h2 e k
  unfold fdivP at e
  split at e
  · split at e
    · rename_i hb
      cases e
      cases h1.int; cases h2.int
      exact ⟨_, _, rfl, rfl, hb, give l k mk_int⟩
    · cases e
  · cases e
def powP : P → P → Option Rv
  | .int i, .int j => if 0 ≤ j ∧ j ≤ 1000 ∧ i.natAbs < 2 ^ 64 then ii (i ^ j.toNat) else none
  | _, _ => none
theorem v_pow {c : Ctx} : OpV c (rI CPow fun i j => .int (i ^ j.toNat)) powP := by
  intro F H p1 p2 x y res Q l h1 h2 e k
  unfold powP at e
  split at e
  · split at e
    · rename_i hb
      cases e
      cases h1.int; cases h2.int
      exact ⟨_, _, rfl, rfl, ⟨hb.1, by omega, hb.2.2⟩, give l k mk_int⟩
    · cases e
  · cases e
def negP : P → Option Rv
  | .int i => ii (-i)
  | _ => none
theorem v_neg {c : Ctx} : UnV c (rU fun i => .int (-i)) negP := by
  intro F H p x res Q l h e k
  unfold negP at e
  split at e
  · cases e
    cases h.int
    exact ⟨_, rfl, give l k mk_int⟩
  · cases e
/-! ### order of ints -/
def cmpP (g : Int → Int → Bool) : P → P → Option Rv
  | .int i, .int j => ib (g i j)
  | _, _ => none
theorem v_cmp {c : Ctx} {g : Int → Int → Bool} : OpV c (rI0 fun i j => .bl (g i j)) (cmpP g) := by
  intro F H p1 p2 x y res Q l h1 h2 e k
  unfold cmpP at e
  split at e
  · cases e
    cases h1.int; cases h2.int
    exact ⟨_, _, rfl, rfl, give l k mk_bl⟩
  · cases e
def ltP := cmpP fun i j => decide (i < j)
def leP := cmpP fun i j => decide (i ≤ j)
def gtP := cmpP fun i j => decide (j < i)
def geP := cmpP fun i j => decide (j ≤ i)
/-! ### data -/
mutual
def toD : P → PyData
  | .non => .none
  | .bl b => .bool b
  | .int i => .int i
  | .str x => .str x
  | .tup xs => .tuple (toDs xs)
  | .lst xs => .list (toDs xs)
  | _ => .none
def toDs : List P → List PyData
  | [] => []
  | p :: ps => toD p :: toDs ps
end
theorem toDs_map : ∀ ps : List P, toDs ps = ps.map toD
  | [] => rfl
  | p :: ps => by unfold toDs; rw [toDs_map ps]; rfl
/-- data of depth up to n -/
def dat : Nat → P → Bool
  | _, .non => true
  | _, .bl _ => true
  | _, .int _ => true
  | _, .str x => PyData.strOk x
  | n + 1, .tup xs => xs.all (dat n)
  | n + 1, .lst xs => xs.all (dat n)
  | _, _ => false
theorem dat_lay : ∀ (n : Nat) (p : P), dat n p = true → (toD p).canLay0 = true ∧ (toD p).depth ≤ n
  | n, .non, _ => by unfold toD; exact ⟨rfl, by simp [PyData.depth]⟩
  | n, .bl _, _ => by unfold toD; exact ⟨rfl, by simp [PyData.depth]⟩
  | n, .int _, _ => by unfold toD; exact ⟨rfl, by simp [PyData.depth]⟩
  | n, .str x, h => by
    unfold toD
    refine ⟨?_, by simp [PyData.depth]⟩
    unfold dat at h
    unfold PyData.canLay0
    exact h
  | 0, .tup xs, h => by simp [dat] at h
  | 0, .lst xs, h => by simp [dat] at h
  | n + 1, .tup xs, h => by
    unfold dat at h
    have ih := fun q hq => dat_lay n q (List.all_eq_true.mp h q hq)
    have key : ∀ l : List P, (∀ q ∈ l, (toD q).canLay0 = true ∧ (toD q).depth ≤ n) → PyData.canLayAll0 (toDs l) = true ∧ PyData.depthAll (toDs l) ≤ n := by
      intro l
      induction l with
      | nil => intro _; exact ⟨rfl, by simp [toDs, PyData.depthAll]⟩
      | cons q l ihl =>
        intro hl
        obtain ⟨a, b⟩ := hl q List.mem_cons_self
        obtain ⟨a2, b2⟩ := ihl fun q hq => hl q (List.mem_cons_of_mem _ hq)
        unfold toDs PyData.canLayAll0 PyData.depthAll
        exact ⟨by rw [a, a2]; rfl, by omega⟩
    obtain ⟨a, b⟩ := key xs ih
    unfold toD PyData.canLay0 PyData.depth
    exact ⟨a, by omega⟩
  | n + 1, .lst xs, h => by
    unfold dat at h
    have ih := fun q hq => dat_lay n q (List.all_eq_true.mp h q hq)
    have key : ∀ l : List P, (∀ q ∈ l, (toD q).canLay0 = true ∧ (toD q).depth ≤ n) → PyData.canLayAll0 (toDs l) = true ∧ PyData.depthAll (toDs l) ≤ n := by
      intro l
      induction l with
      | nil => intro _; exact ⟨rfl, by simp [toDs, PyData.depthAll]⟩
      | cons q l ihl =>
        intro hl
        obtain ⟨a, b⟩ := hl q List.mem_cons_self
        obtain ⟨a2, b2⟩ := ihl fun q hq => hl q (List.mem_cons_of_mem _ hq)
        unfold toDs PyData.canLayAll0 PyData.depthAll
        exact ⟨by rw [a, a2]; rfl, by omega⟩
    obtain ⟨a, b⟩ := key xs ih
    unfold toD PyData.canLay0 PyData.depth
    exact ⟨a, by omega⟩
  | n, .dct .., h => by cases n <;> simp [dat] at h
  | n, .obj .., h => by cases n <;> simp [dat] at h
  | n, .fn .., h => by cases n <;> simp [dat] at h
  | n, .scr .., h => by cases n <;> simp [dat] at h
  | n, .ty .., h => by cases n <;> simp [dat] at h
  | n, .cls .., h => by cases n <;> simp [dat] at h
  | n, .nt .., h => by cases n <;> simp [dat] at h
theorem dat_shaped {p : P} (h : dat 60 p = true) : SeqAt.shaped (toD p) = true := by
  obtain ⟨a, b⟩ := dat_lay 60 p h
  unfold SeqAt.shaped
  rw [a, decide_eq_true (by omega)]
  rfl
mutual
theorem dp_of {c : Ctx} {H : Hp} : ∀ (n : Nat) (p : P) (v : V), dat n p = true → Rp c H p v → Dp c.K H v (toD p)
  | _, .non, _, _, r => by rw [rp_non r]; unfold toD; exact .non
  | _, .bl b, _, _, r => by rw [rp_bl r]; unfold toD; exact .bl b
  | _, .int i, _, _, r => by rw [rp_int r]; unfold toD; exact .int i
  | _, .str x, _, _, r => by rw [rp_str r]; unfold toD; exact .str x
  | 0, .tup xs, _, h, _ => by simp [dat] at h
  | 0, .lst xs, _, h, _ => by simp [dat] at h
  | n + 1, .tup xs, _, h, r => by
    obtain ⟨a, vs, rfl, q, r2⟩ := rp_tup r
    unfold dat at h
    unfold toD
    exact .tup q (dps_of n xs vs h r2)
  | n + 1, .lst xs, _, h, r => by
    obtain ⟨a, vs, rfl, q, r2⟩ := rp_lst r
    unfold dat at h
    unfold toD
    exact .lst (.of q) (dps_of n xs vs h r2)
  | n, .dct .., _, h, _ => by cases n <;> simp [dat] at h
  | n, .obj .., _, h, _ => by cases n <;> simp [dat] at h
  | n, .fn .., _, h, _ => by cases n <;> simp [dat] at h
  | n, .scr .., _, h, _ => by cases n <;> simp [dat] at h
  | n, .ty .., _, h, _ => by cases n <;> simp [dat] at h
  | n, .cls .., _, h, _ => by cases n <;> simp [dat] at h
  | n, .nt .., _, h, _ => by cases n <;> simp [dat] at h
theorem dps_of {c : Ctx} {H : Hp} : ∀ (n : Nat) (ps : List P) (vs : List V), ps.all (dat n) = true → Rps c H ps vs → DpAll c.K H vs (toDs ps)
  | _, [], _, _, r => by rw [rps_nil_inv r]; unfold toDs; exact .nil
  | n, p :: ps, _, h, r => by
    obtain ⟨v, l, rfl, r1, r2⟩ := rps_inv r
    rw [List.all_cons, Bool.and_eq_true] at h
    unfold toDs
    exact .cons (dp_of n p v h.1 r1) (dps_of n ps l h.2 r2)
end
def eqv (p q : P) : Bool := PyData.eqv (toD p) (toD q)
def eqP (p q : P) : Option Rv := if dat 60 p = true ∧ dat 60 q = true then ib (eqv p q) else none
def neP (p q : P) : Option Rv := if dat 60 p = true ∧ dat 60 q = true then ib (!eqv p q) else none
theorem v_eq {c : Ctx} : OpV c (rEqD c.K) eqP := by
  intro F H p1 p2 x y res Q l h1 h2 e k
  unfold eqP at e
  split at e
  · rename_i hd
    cases e
    exact ⟨_, _, dp_of 60 p1 x hd.1 (h1.rpH l), dp_of 60 p2 y hd.2 (h2.rpH l), dat_shaped hd.1, dat_shaped hd.2, give l k mk_bl⟩
  · cases e
theorem v_ne {c : Ctx} : OpV c (rNeD c.K) neP := by
  intro F H p1 p2 x y res Q l h1 h2 e k
  unfold neP at e
  split at e
  · rename_i hd
    cases e
    exact ⟨_, _, dp_of 60 p1 x hd.1 (h1.rpH l), dp_of 60 p2 y hd.2 (h2.rpH l), dat_shaped hd.1, dat_shaped hd.2, give l k mk_bl⟩
  · cases e
/-! x in xs (a list) -/
def inLP (neg : Bool) : P → P → Option Rv
  | p, .lst ps => if dat 60 p = true ∧ dat 60 (.lst ps) = true then ib (if neg = true then !ps.any (fun z => eqv z p) else ps.any fun z => eqv z p) else none
  | _, _ => none
theorem any_toD {p : P} : ∀ ps : List P, ((toDs ps).any fun z => PyData.eqv z (toD p)) = ps.any fun z => eqv z p
  | [] => rfl
  | q :: ps => by unfold toDs; rw [List.any_cons, List.any_cons, any_toD ps]; rfl
theorem v_inL {c : Ctx} : OpV c (rInD c.K) (inLP false) := by
  intro F H p1 p2 x y res Q l h1 h2 e k
  unfold inLP at e
  split at e
  · rename_i ps
    split at e
    · rename_i hd
      cases e
      have d2 := dp_of 60 (.lst ps) y hd.2 (h2.rpH l)
      have s2 := dat_shaped hd.2
      unfold toD at d2 s2
      exact ⟨_, _, dp_of 60 p1 x hd.1 (h1.rpH l), d2, dat_shaped hd.1, s2, by rw [any_toD]; exact give l k mk_bl⟩
    · cases e
  · cases e
theorem v_ninL {c : Ctx} : OpV c (rNotInD c.K) (inLP true) := by
  intro F H p1 p2 x y res Q l h1 h2 e k
  unfold inLP at e
  split at e
  · rename_i ps
    split at e
    · rename_i hd
      cases e
      have d2 := dp_of 60 (.lst ps) y hd.2 (h2.rpH l)
      have s2 := dat_shaped hd.2
      unfold toD at d2 s2
      exact ⟨_, _, dp_of 60 p1 x hd.1 (h1.rpH l), d2, dat_shaped hd.1, s2, by rw [any_toD]; exact give l k mk_bl⟩
    · cases e
  · cases e
/-! is None -/
def P.isNon : P → Bool
  | .non => true
  | _ => false
def isNP (neg : Bool) : P → P → Option Rv
  | p, .non => ib (if neg = true then !p.isNon else p.isNon)
  | _, _ => none
theorem non_iff {c : Ctx} {H : Hp} {p : P} {v : V} (r : Rp c H p v) : decide (v = .non) = p.isNon := by
  cases p with
  | non => rw [rp_non r]; rfl
  | bl b => rw [rp_bl r]; rfl
  | int i => rw [rp_int r]; rfl
  | str x => rw [rp_str r]; rfl
  | tup ps => obtain ⟨a, vs, rfl, _⟩ := rp_tup r; rfl
  | lst ps => obtain ⟨a, vs, rfl, _⟩ := rp_lst r; rfl
  | dct t ks ws => unfold Rp at r; obtain ⟨a, vs, rfl, _⟩ := r; rfl
  | obj C ps => obtain ⟨a, dx, vs, rfl, _⟩ := rp_obj r; rfl
  | fn f => rw [rp_fn r]; rfl
  | scr ns => obtain ⟨a, rfl, _⟩ := rp_scr r; rfl
  | ty n => rw [rp_ty r]; rfl
  | cls C => rw [rp_cls r]; rfl
  | nt ps => obtain ⟨a, o, vs, rfl, _⟩ := rp_nt r; rfl
theorem v_isN {c : Ctx} : OpV c (fun x y H Q => y = .non ∧ Q (.bl (decide (x = .non))) H) (isNP false) := by
  intro F H p1 p2 x y res Q l h1 h2 e k
  unfold isNP at e
  split at e
  · cases e
    refine ⟨h2.non, ?_⟩
    rw [non_iff (h1.rpH l)]
    exact give l k mk_bl
  · cases e
theorem v_notN {c : Ctx} : OpV c (fun x y H Q => y = .non ∧ Q (.bl (!decide (x = .non))) H) (isNP true) := by
  intro F H p1 p2 x y res Q l h1 h2 e k
  unfold isNP at e
  split at e
  · cases e
    refine ⟨h2.non, ?_⟩
    rw [non_iff (h1.rpH l)]
    exact give l k mk_bl
  · cases e
/-! ### xs[i] -/
def ixP : P → P → Option Rv
  | .lst ps, .int i => (atI ps i).map .val
  | .tup ps, .int i => (atI ps i).map .val
  | .scr ns, .int i => (atI ns i).map fun n => .val (.int n)
  | .str x, .int i => if x.length ≤ 1000000 then (atI x.cps.toList i).map fun n => .val (.str ⟨#[n]⟩) else none
  | _, _ => none
theorem rps_atI {c : Ctx} {H : Hp} {ps : List P} {vs : List V} {i : Int} {p : P} (r : Rps c H ps vs) (e : atI ps i = some p) : ∃ v, atI vs i = some v ∧ Rp c H p v := by
  have n := rps_len r
  unfold atI at e ⊢
  rw [← n]
  cases q : ixN ps.length i with
  | none => rw [q] at e; cases e
  | some j =>
    rw [q] at e
    exact rps_get r e
theorem v_ix {c : Ctx} : OpV c (rIx c.K) ixP := by
  intro F H p1 p2 x y res Q l h1 h2 e k
  have hs := sizeLine_eq
  unfold ixP at e
  split at e
  · rename_i ps i
    obtain ⟨a, vs, rfl, q, r⟩ := h1.lst l
    cases h2.int
    cases e1 : atI ps i with
    | none => rw [e1] at e; cases e
    | some p =>
      rw [e1] at e
      cases e
      obtain ⟨v, e2, rv⟩ := rps_atI r e1
      exact .inl ⟨a, vs, i, v, rfl, rfl, .of q, e2, give l k rv⟩
  · rename_i ps i
    obtain ⟨a, vs, rfl, q, r, _⟩ := h1.tup l
    cases h2.int
    cases e1 : atI ps i with
    | none => rw [e1] at e; cases e
    | some p =>
      rw [e1] at e
      cases e
      obtain ⟨v, e2, rv⟩ := rps_atI r e1
      exact .inr (.inl ⟨a, vs, i, v, rfl, rfl, q, e2, give l k rv⟩)
  · rename_i ns i
    obtain ⟨a, rfl, q⟩ := rp_scr (h1.rpH l)
    cases h2.int
    cases e1 : atI ns i with
    | none => rw [e1] at e; cases e
    | some n =>
      rw [e1] at e
      cases e
      refine .inl ⟨a, _, i, .int n, rfl, rfl, q, ?_, give l k mk_int⟩
      unfold atI at e1 ⊢
      rw [List.length_map]
      cases z : ixN ns.length i with
      | none => rw [z] at e1; cases e1
      | some j =>
        rw [z] at e1
        have e3 : ns[j]? = some n := e1
        show (ns.map V.int)[j]? = _
        rw [List.getElem?_map, e3]; rfl
  · rename_i z i
    split at e
    · rename_i hz
      cases h1.str
      cases h2.int
      cases e1 : atI z.cps.toList i with
      | none => rw [e1] at e; cases e
      | some n =>
        rw [e1] at e
        cases e
        exact .inr (.inr ⟨z, i, n, rfl, rfl, by omega, e1, give l k mk_str⟩)
    · cases e
  · cases e
/-! ### calls -/
def lenP : List P → Option Rv
  | [.lst ps] => ii ps.length
  | [.tup ps] => ii ps.length
  | [.scr ns] => ii ns.length
  | [.str x] => if x.length ≤ 1000000 then ii x.length else none
  | _ => none
def rLen2 (K : PySem.W.Frag) : List V → Hp → VK → Prop := fun xs H Q => (∃ p ys, xs = [.ref p] ∧ (SqL K H p ys ∨ SqT K H p ys) ∧ Q (.int ys.length) H) ∨ (∃ z, xs = [.str z] ∧ z.length ≤ sizeLine ∧ Q (.int z.length) H)
theorem cl_len {X : Cx} : CallR X (.builtin "len") (rLen2 X.K) := CallR.or call_len_seq call_len_str
theorem rbs1 {c : Ctx} {F H : Hp} {p : P} {xs : List V} (h : Rbs c F H [p] xs) : ∃ v, xs = [v] ∧ Rb c F H p v := by
  obtain ⟨v, l, rfl, h1, h2⟩ := h
  have : l = [] := h2
  subst this
  exact ⟨v, rfl, h1⟩
theorem rbs2 {c : Ctx} {F H : Hp} {p q : P} {xs : List V} (h : Rbs c F H [p, q] xs) : ∃ v w, xs = [v, w] ∧ Rb c F H p v ∧ Rb c F H q w := by
  obtain ⟨v, l, rfl, h1, h2⟩ := h
  obtain ⟨w, rfl, h3⟩ := rbs1 h2
  exact ⟨v, w, rfl, h1, h3⟩
theorem v_len {c : Ctx} : CalV c (rLen2 c.K) lenP := by
  intro F H ps xs res Q l h e k
  have hs := sizeLine_eq
  unfold lenP at e
  split at e
  · cases e
    obtain ⟨v, rfl, h1⟩ := rbs1 h
    obtain ⟨a, vs, rfl, q, r⟩ := h1.lst l
    refine .inl ⟨a, vs, rfl, .inl (.of q), ?_⟩
    rw [← rps_len r]
    exact give l k mk_int
  · cases e
    obtain ⟨v, rfl, h1⟩ := rbs1 h
    obtain ⟨a, vs, rfl, q, r, _⟩ := h1.tup l
    refine .inl ⟨a, vs, rfl, .inr q, ?_⟩
    rw [← rps_len r]
    exact give l k mk_int
  · cases e
    obtain ⟨v, rfl, h1⟩ := rbs1 h
    obtain ⟨a, rfl, q⟩ := rp_scr (h1.rpH l)
    refine .inl ⟨a, _, rfl, .inl q, ?_⟩
    rw [List.length_map]
    exact give l k mk_int
  · split at e
    · rename_i z hz
      cases e
      obtain ⟨v, rfl, h1⟩ := rbs1 h
      cases h1.str
      exact .inr ⟨z, rfl, by omega, give l k mk_int⟩
    · cases e
  · cases e
def absP : List P → Option Rv
  | [.int i] => ii (if i < 0 then -i else i)
  | _ => none
theorem v_abs {c : Ctx} : CalV c (fun xs H Q => ∃ i, xs = [.int i] ∧ Q (.int (if i < 0 then -i else i)) H) absP := by
  intro F H ps xs res Q l h e k
  unfold absP at e
  split at e
  · cases e
    obtain ⟨v, rfl, h1⟩ := rbs1 h
    cases h1.int
    exact ⟨_, rfl, give l k mk_int⟩
  · cases e
def intP : List P → Option Rv
  | [.int i] => ii i
  | [.bl b] => ii (if b = true then 1 else 0)
  | _ => none
theorem v_int {c : Ctx} : CalV c (fun xs H Q => (∃ i, xs = [.int i] ∧ Q (.int i) H) ∨ ∃ k, xs = [.bl k] ∧ Q (.int (if k then 1 else 0)) H) intP := by
  intro F H ps xs res Q l h e k
  unfold intP at e
  split at e
  · cases e
    obtain ⟨v, rfl, h1⟩ := rbs1 h
    cases h1.int
    exact .inl ⟨_, rfl, give l k mk_int⟩
  · cases e
    obtain ⟨v, rfl, h1⟩ := rbs1 h
    cases h1.bl
    exact .inr ⟨_, rfl, give l k mk_int⟩
  · cases e
def tupleP : List P → Option Rv
  | [.lst ps] => some (.val (.tup ps))
  | [.tup ps] => some (.val (.tup ps))
  | _ => none
theorem v_tuple {c : Ctx} : CalV c (fun xs H Q => ∃ p ys, xs = [.ref p] ∧ ((SqL c.K H p ys ∧ ∀ l, H l = none → Q (.ref l) (L2.upd H l (.tup ys))) ∨ (SqT c.K H p ys ∧ Q (.ref p) H))) tupleP := by
  intro F H ps xs res Q l h e k
  unfold tupleP at e
  split at e
  · cases e
    obtain ⟨v, rfl, h1⟩ := rbs1 h
    obtain ⟨a, vs, rfl, q, r⟩ := h1.lst l
    exact ⟨a, vs, rfl, .inl ⟨.of q, fun p hp => k _ _ _ (gr_tup l hp) (rn_tup l hp r)⟩⟩
  · cases e
    obtain ⟨v, rfl, h1⟩ := rbs1 h
    obtain ⟨a, vs, rfl, q, r, z⟩ := h1.tup l
    exact ⟨a, vs, rfl, .inr ⟨q, give l k z⟩⟩
  · cases e
def listP : List P → Option Rv
  | [.lst ps] => some (.own (.lst ps))
  | [.tup ps] => some (.own (.lst ps))
  | _ => none
theorem v_list {c : Ctx} : CalV c (fun xs H Q => ∃ p ys, xs = [.ref p] ∧ (SqL c.K H p ys ∨ SqT c.K H p ys) ∧ ∀ l, H l = none → Q (.ref l) (L2.upd H l (.lst ys))) listP := by
  intro F H ps xs res Q l h e k
  unfold listP at e
  split at e
  · cases e
    obtain ⟨v, rfl, h1⟩ := rbs1 h
    obtain ⟨a, vs, rfl, q, r⟩ := h1.lst l
    exact ⟨a, vs, rfl, .inl (.of q), fun p hp => k _ _ _ (gr_lst l hp) (rn_lst l hp r)⟩
  · cases e
    obtain ⟨v, rfl, h1⟩ := rbs1 h
    obtain ⟨a, vs, rfl, q, r, z⟩ := h1.tup l
    exact ⟨a, vs, rfl, .inr q, fun p hp => k _ _ _ (gr_lst l hp) (rn_lst l hp r)⟩
  · cases e
/-- ints of a row -/
def intsOf : List P → Option (List Int)
  | [] => some []
  | .int i :: ps => (intsOf ps).map (i :: ·)
  | _ => none
theorem ints_rps {c : Ctx} {H : Hp} : ∀ {ps : List P} {ns : List Int} {vs : List V}, intsOf ps = some ns → Rps c H ps vs → vs = ns.map V.int
  | [], _, _, e, r => by cases e; exact rps_nil_inv r
  | p :: ps, _, _, e, r => by
    cases p with
    | int i =>
      unfold intsOf at e
      cases e1 : intsOf ps with
      | none => rw [e1] at e; cases e
      | some ns =>
        rw [e1] at e
        cases e
        obtain ⟨v, l, rfl, r1, r2⟩ := rps_inv r
        rw [rp_int r1, ints_rps e1 r2]; rfl
    | _ => cases e
theorem intsOf_map (ns : List Int) : intsOf (ns.map .int) = some ns := by
  induction ns with
  | nil => rfl
  | cons n ns ih => show (intsOf (ns.map .int)).map (n :: ·) = _; rw [ih]; rfl
def maxI : List Int → Int
  | [] => 0
  | n :: ns => ns.foldl max n
def minI : List Int → Int
  | [] => 0
  | n :: ns => ns.foldl min n
theorem foldl_max : ∀ (ns : List Int) (n : Int), (n ≤ ns.foldl max n ∧ ∀ y ∈ ns, y ≤ ns.foldl max n) ∧ (ns.foldl max n = n ∨ ns.foldl max n ∈ ns)
  | [], n => ⟨⟨Int.le_refl n, fun y h => by cases h⟩, .inl rfl⟩
  | m :: ns, n => by
    obtain ⟨⟨h1, h2⟩, h3⟩ := foldl_max ns (max n m)
    refine ⟨⟨by show n ≤ ns.foldl max (max n m); omega, fun y hy => ?_⟩, ?_⟩
    · show y ≤ ns.foldl max (max n m)
      rcases List.mem_cons.mp hy with e | e
      · subst e; omega
      · exact h2 y e
    · show ns.foldl max (max n m) = n ∨ _
      rcases h3 with e | e
      · rw [List.foldl_cons, e]
        by_cases z : n ≤ m
        · exact .inr (by rw [Int.max_eq_right z]; exact List.mem_cons_self)
        · exact .inl (Int.max_eq_left (by omega))
      · exact .inr (List.mem_cons_of_mem _ e)
theorem foldl_min : ∀ (ns : List Int) (n : Int), (ns.foldl min n ≤ n ∧ ∀ y ∈ ns, ns.foldl min n ≤ y) ∧ (ns.foldl min n = n ∨ ns.foldl min n ∈ ns)
  | [], n => ⟨⟨Int.le_refl n, fun y h => by cases h⟩, .inl rfl⟩
  | m :: ns, n => by
    obtain ⟨⟨h1, h2⟩, h3⟩ := foldl_min ns (min n m)
    refine ⟨⟨by show ns.foldl min (min n m) ≤ n; omega, fun y hy => ?_⟩, ?_⟩
    · show ns.foldl min (min n m) ≤ y
      rcases List.mem_cons.mp hy with e | e
      · subst e; omega
      · exact h2 y e
    · show ns.foldl min (min n m) = n ∨ _
      rcases h3 with e | e
      · rw [List.foldl_cons, e]
        by_cases z : n ≤ m
        · exact .inl (Int.min_eq_left z)
        · exact .inr (by rw [Int.min_eq_right (by omega)]; exact List.mem_cons_self)
      · exact .inr (List.mem_cons_of_mem _ e)
theorem maxI_spec {ns : List Int} (h : 0 < ns.length) : maxI ns ∈ ns ∧ ∀ y ∈ ns, y ≤ maxI ns := by
  cases ns with
  | nil => simp at h
  | cons n ns =>
    obtain ⟨⟨h1, h2⟩, h3⟩ := foldl_max ns n
    refine ⟨?_, fun y hy => ?_⟩
    · rcases h3 with e | e
      · show ns.foldl max n ∈ _; rw [e]; exact List.mem_cons_self
      · exact List.mem_cons_of_mem _ e
    · rcases List.mem_cons.mp hy with e | e
      · subst e; exact h1
      · exact h2 y e
theorem minI_spec {ns : List Int} (h : 0 < ns.length) : minI ns ∈ ns ∧ ∀ y ∈ ns, minI ns ≤ y := by
  cases ns with
  | nil => simp at h
  | cons n ns =>
    obtain ⟨⟨h1, h2⟩, h3⟩ := foldl_min ns n
    refine ⟨?_, fun y hy => ?_⟩
    · rcases h3 with e | e
      · show ns.foldl min n ∈ _; rw [e]; exact List.mem_cons_self
      · exact List.mem_cons_of_mem _ e
    · rcases List.mem_cons.mp hy with e | e
      · subst e; exact h1
      · exact h2 y e
def onInts (g : List Int → Option Rv) : List P → Option Rv
  | [.lst ps] => (intsOf ps).bind g
  | _ => none
def sumP := onInts fun ns => ii ns.sum
def maxLP := onInts fun ns => if 0 < ns.length then ii (maxI ns) else none
def minLP := onInts fun ns => if 0 < ns.length then ii (minI ns) else none
theorem onInts_post {c : Ctx} {F H : Hp} {ps : List P} {xs : List V} {g : List Int → Option Rv} {res : Rv} (l : Le F H) (h : Rbs c F H ps xs) (e : onInts g ps = some res) : ∃ a ns, xs = [.ref a] ∧ SqL c.K H a (ns.map V.int) ∧ g ns = some res := by
  unfold onInts at e
  split at e
  · rename_i qs
    obtain ⟨v, rfl, h1⟩ := rbs1 h
    obtain ⟨a, vs, rfl, q, r⟩ := h1.lst l
    cases e1 : intsOf qs with
    | none => rw [e1] at e; cases e
    | some ns =>
      rw [e1] at e
      have := ints_rps e1 r
      subst this
      exact ⟨a, ns, rfl, .of q, e⟩
  · cases e
theorem v_sum {c : Ctx} : CalV c (rSum c.K) sumP := by
  intro F H ps xs res Q l h e k
  obtain ⟨a, ns, rfl, q, e⟩ := onInts_post l h e
  cases e
  exact ⟨a, ns, rfl, q, give l k mk_int⟩
theorem v_maxL {c : Ctx} : CalV c (rMax c.K) maxLP := by
  intro F H ps xs res Q l h e k
  obtain ⟨a, ns, rfl, q, e⟩ := onInts_post l h e
  split at e
  · rename_i hn
    cases e
    refine ⟨a, ns, rfl, q, hn, fun m h1 h2 => ?_⟩
    obtain ⟨h3, h4⟩ := maxI_spec hn
    have := h2 _ h3
    have := h4 _ h1
    rw [show m = maxI ns by omega]
    exact give l k mk_int
  · cases e
theorem v_minL {c : Ctx} : CalV c (rMin c.K) minLP := by
  intro F H ps xs res Q l h e k
  obtain ⟨a, ns, rfl, q, e⟩ := onInts_post l h e
  split at e
  · rename_i hn
    cases e
    refine ⟨a, ns, rfl, q, hn, fun m h1 h2 => ?_⟩
    obtain ⟨h3, h4⟩ := minI_spec hn
    have := h2 _ h3
    have := h4 _ h1
    rw [show m = minI ns by omega]
    exact give l k mk_int
  · cases e
def max2P : List P → Option Rv
  | [.int i, .int j] => ii (if j > i then j else i)
  | _ => none
def min2P : List P → Option Rv
  | [.int i, .int j] => ii (if j < i then j else i)
  | _ => none
theorem v_max2 {c : Ctx} : CalV c (fun xs H Q => ∃ i j, xs = [.int i, .int j] ∧ Q (.int (if j > i then j else i)) H) max2P := by
  intro F H ps xs res Q l h e k
  unfold max2P at e
  split at e
  · cases e
    obtain ⟨v, w, rfl, h1, h2⟩ := rbs2 h
    cases h1.int; cases h2.int
    exact ⟨_, _, rfl, give l k mk_int⟩
  · cases e
theorem v_min2 {c : Ctx} : CalV c (fun xs H Q => ∃ i j, xs = [.int i, .int j] ∧ Q (.int (if j < i then j else i)) H) min2P := by
  intro F H ps xs res Q l h e k
  unfold min2P at e
  split at e
  · cases e
    obtain ⟨v, w, rfl, h1, h2⟩ := rbs2 h
    cases h1.int; cases h2.int
    exact ⟨_, _, rfl, give l k mk_int⟩
  · cases e
/-! all, any of a list of truths -/
def blsOf : List P → Option (List Bool)
  | [] => some []
  | .bl i :: ps => (blsOf ps).map (i :: ·)
  | _ => none
theorem bls_rps {c : Ctx} {H : Hp} : ∀ {ps : List P} {ns : List Bool} {vs : List V}, blsOf ps = some ns → Rps c H ps vs → vs = ns.map V.bl
  | [], _, _, e, r => by cases e; exact rps_nil_inv r
  | p :: ps, _, _, e, r => by
    cases p with
    | bl i =>
      unfold blsOf at e
      cases e1 : blsOf ps with
      | none => rw [e1] at e; cases e
      | some ns =>
        rw [e1] at e
        cases e
        obtain ⟨v, l, rfl, r1, r2⟩ := rps_inv r
        rw [rp_bl r1, bls_rps e1 r2]; rfl
    | _ => cases e
theorem blsOf_map (ns : List Bool) : blsOf (ns.map .bl) = some ns := by
  induction ns with
  | nil => rfl
  | cons n ns ih => show (blsOf (ns.map .bl)).map (n :: ·) = _; rw [ih]; rfl
def onBls (g : List Bool → Bool) : List P → Option Rv
  | [.lst ps] => (blsOf ps).bind fun bs => ib (g bs)
  | _ => none
def allP := onBls fun bs => bs.all id
def anyP := onBls fun bs => bs.any id
theorem onBls_post {c : Ctx} {F H : Hp} {ps : List P} {xs : List V} {g : List Bool → Bool} {res : Rv} (l : Le F H) (h : Rbs c F H ps xs) (e : onBls g ps = some res) : ∃ a ns, xs = [.ref a] ∧ SqL c.K H a (ns.map V.bl) ∧ ib (g ns) = some res := by
  unfold onBls at e
  split at e
  · rename_i qs
    obtain ⟨v, rfl, h1⟩ := rbs1 h
    obtain ⟨a, vs, rfl, q, r⟩ := h1.lst l
    cases e1 : blsOf qs with
    | none => rw [e1] at e; cases e
    | some ns =>
      rw [e1] at e
      have := bls_rps e1 r
      subst this
      exact ⟨a, ns, rfl, .of q, e⟩
  · cases e
theorem v_all {c : Ctx} : CalV c (rAll c.K) allP := by
  intro F H ps xs res Q l h e k
  obtain ⟨a, ns, rfl, q, e⟩ := onBls_post l h e
  cases e
  exact ⟨a, ns, rfl, q, give l k mk_bl⟩
theorem v_any {c : Ctx} : CalV c (rAny c.K) anyP := by
  intro F H ps xs res Q l h e k
  obtain ⟨a, ns, rfl, q, e⟩ := onBls_post l h e
  cases e
  exact ⟨a, ns, rfl, q, give l k mk_bl⟩
end PV

namespace PV
open PySem L2 PyProof.Rows

/-! ### isinstance -/
def tyName : P → Option String
  | .non => some "NoneType"
  | .bl _ => some "bool"
  | .int _ => some "int"
  | .str _ => some "str"
  | .tup _ => some "tuple"
  | .lst _ => some "list"
  | _ => none
def isi1 (p : P) (n : String) : Option Bool := (tyName p).bind fun t => if n ∈ ["int", "bool", "str", "list", "tuple"] then some (t == n || (t == "bool" && n == "int")) else none
theorem kit_all : ∀ t ∈ ["NoneType", "bool", "int", "str", "tuple", "list"], ∀ n ∈ ["int", "bool", "str", "list", "tuple"], kitB t n = some (t == n || (t == "bool" && n == "int")) := by decide +kernel
theorem tyName_mem {p : P} {t : String} (h : tyName p = some t) : t ∈ ["NoneType", "bool", "int", "str", "tuple", "list"] := by
  cases p <;> simp only [tyName] at h <;> first | (cases h; decide) | cases h
theorem tyx_of {c : Ctx} {H : Hp} {p : P} {v : V} {t : String} (r : Rp c H p v) (h : tyName p = some t) : TyX c.K H v (.type t) := by
  cases p with
  | non => cases h; rw [rp_non r]; exact .base .non
  | bl b => cases h; rw [rp_bl r]; exact .base (.bl b)
  | int i => cases h; rw [rp_int r]; exact .base (.int i)
  | str x => cases h; rw [rp_str r]; exact .base (.str x)
  | tup ps =>
    cases h
    obtain ⟨a, vs, rfl, q, _⟩ := rp_tup r
    rcases q with (q | ⟨o, q⟩) | ⟨o, its, n, q1, q2, _⟩
    · exact .base (.tup q)
    · exact .fTuple q
    · exact .kTuple q1 q2
  | lst ps =>
    cases h
    obtain ⟨a, vs, rfl, q, _⟩ := rp_lst r
    exact .base (.lst q)
  | dct t ks ws => cases h
  | obj C ps => cases h
  | fn f => cases h
  | scr ns => cases h
  | ty n => cases h
  | cls C => cases h
  | nt ps => cases h
theorem kit_isi {K : PySem.W.Frag} {p : P} {t n : String} {b : Bool} (h : tyName p = some t) (e : isi1 p n = some b) : PySem.W.kitOne K (.type t) (.type n) = some b := by
  unfold isi1 at e
  rw [h] at e
  have e' : (if n ∈ ["int", "bool", "str", "list", "tuple"] then some (t == n || (t == "bool" && n == "int")) else none) = some b := e
  split at e'
  · rename_i hn
    rw [← e']
    exact kit_ty (kit_all t (tyName_mem h) n hn)
  · cases e'
def isiAny (p : P) : List P → Option Bool
  | [] => some false
  | .ty n :: ps => (isi1 p n).bind fun b => if b = true then some true else isiAny p ps
  | _ => none
def isiP : List P → Option Rv
  | [p, .ty n] => (isi1 p n).bind ib
  | [p, .tup ts] => (isiAny p ts).bind ib
  | _ => none
/-- isinstance(x, (c1, c2, ..)), the tuple readable -/
def rIsiS (K : PySem.W.Frag) : List V → Hp → VK → Prop := fun xs H Q => ∃ (x : V) (tp : Addr) (cs : List V) (t : Value) (us : List Value) (b : Bool), xs = [x, .ref tp] ∧ SqT K H tp cs ∧ Paired ClsV cs us ∧ TyX K H x t ∧ PySem.W.kitAny K t us = some b ∧ Q (.bl b) H
theorem call_isiS {X : Cx} : CallR X (.builtin "isinstance") (rIsiS X.K) := by
  intro pins s σ H xs us Q I r h
  obtain ⟨x, tp, cs, t, ws, b, rfl, hT, k, ty, e, q⟩ := h
  obtain ⟨u1, u2, rfl, r1, r2⟩ := vals2 r
  cases (show u2 = Value.ref tp from r2)
  obtain ⟨P, Z, p, hx⟩ := kit_of I r1 ty
  obtain ⟨its, rv, ⟨o, h1, h2, n, h3⟩, _⟩ := I.tuple hT
  have e3 := ClsV.all k rv
  subst e3
  obtain ⟨oc, od, dt, sl⟩ := o
  simp only at h2 h3
  subst h2 h3
  exact PySem.W.kia_tup Z I.kIn p h1 e hx fun tk => ⟨.bl b, H, I.tok tk, rfl, q⟩
theorem cl_isi {X : Cx} : CallR X (.builtin "isinstance") (fun x H Q => rIsi X.K x H Q ∨ rIsiS X.K x H Q) := CallR.or call_isi call_isiS
/-- the types written in the tuple -/
def allTy : List P → Bool
  | [] => true
  | .ty _ :: ps => allTy ps
  | _ => false
theorem tys_paired {c : Ctx} {H : Hp} : ∀ {ts : List P} {vs : List V}, allTy ts = true → Rps c H ts vs → ∃ us, Paired ClsV vs us ∧ us = ts.map (fun t => match t with | .ty n => Value.type n | _ => Value.none)
  | [], _, _, r => by rw [rps_nil_inv r]; exact ⟨[], .nil, rfl⟩
  | t :: ts, _, h, r => by
    obtain ⟨v, l, rfl, r1, r2⟩ := rps_inv r
    cases t with
    | ty n =>
      obtain ⟨us, k, e⟩ := tys_paired (show allTy ts = true from h) r2
      rw [rp_ty r1]
      exact ⟨.type n :: us, .cons (.ty n) k, by rw [e]; rfl⟩
    | _ => cases h
theorem kitAny_of {K : PySem.W.Frag} {p : P} {t : String} (ht : tyName p = some t) : ∀ {ts : List P} {b : Bool}, allTy ts = true → isiAny p ts = some b → PySem.W.kitAny K (.type t) (ts.map (fun t => match t with | .ty n => Value.type n | _ => Value.none)) = some b
  | [], _, _, e => by cases e; exact kitAny_nil
  | q :: ts, b, h, e => by
    cases q with
    | ty n =>
      unfold isiAny at e
      cases e1 : isi1 p n with
      | none => rw [e1] at e; cases e
      | some b1 =>
        rw [e1] at e
        refine kitAny_cons (kit_isi ht e1) (fun z => ?_) (fun z => ?_)
        · subst z
          exact kitAny_of ht (show allTy ts = true from h) e
        · subst z
          cases e
          rfl
    | _ => cases h
def isiP' : List P → Option Rv
  | [p, .tup ts] => if allTy ts = true ∧ (tyName p).isSome = true then isiP [p, .tup ts] else none
  | ps => isiP ps
theorem v_isi {c : Ctx} : CalV c (fun x H Q => rIsi c.K x H Q ∨ rIsiS c.K x H Q) isiP' := by
  intro F H ps xs res Q l h e k
  have one : ∀ (p : P) (n : String), Rbs c F H [p, .ty n] xs → (isi1 p n).bind ib = some res → rIsi c.K xs H Q := fun p n h e => by
    obtain ⟨v, w, rfl, h1, h2⟩ := rbs2 h
    cases e1 : isi1 p n with
    | none => rw [e1] at e; cases e
    | some b =>
      rw [e1] at e
      cases e
      cases ht : tyName p with
      | none => unfold isi1 at e1; rw [ht] at e1; cases e1
      | some t =>
        have hw := rp_ty (h2.rpH l)
        exact ⟨v, w, .type t, .type n, b, rfl, by rw [hw]; exact .ty n, tyx_of (h1.rpH l) ht, kit_isi ht e1, give l k mk_bl⟩
  unfold isiP' at e
  split at e
  · rename_i p ts
    split at e
    · rename_i ha
      have e' : (isiAny p ts).bind ib = some res := e
      obtain ⟨v, w, rfl, h1, h2⟩ := rbs2 h
      obtain ⟨a, vs, rfl, q, r, _⟩ := h2.tup l
      cases e1 : isiAny p ts with
      | none => rw [e1] at e'; cases e'
      | some b =>
        rw [e1] at e'
        cases e'
        obtain ⟨us, k1, k2⟩ := tys_paired ha.1 r
        cases ht : tyName p with
        | none => rw [ht] at ha; cases ha.2
        | some t => exact .inr ⟨v, a, vs, .type t, us, b, rfl, q, k1, tyx_of (h1.rpH l) ht, by rw [k2]; exact kitAny_of ht ha.1 e1, give l k mk_bl⟩
    · cases e
  · unfold isiP at e
    split at e
    · exact .inl (one _ _ h e)
    · rename_i p ts hne
      exact absurd rfl (hne p ts)
    · cases e
end PV

namespace PV
open PySem L2 PyProof.Rows

/-! ### slices -/
def cutP (xs : List P) (lo hi : Option Int) : List P := (xs.drop (HT.sIx xs.length 0 lo)).take (HT.sIx xs.length xs.length hi - HT.sIx xs.length 0 lo)
theorem rps_cut {c : Ctx} {F : Hp} {ps : List P} {vs : List V} (r : Rps c F ps vs) (lo hi : Option Int) : Rps c F (cutP ps lo hi) (cutV vs lo hi) := by
  unfold cutP cutV
  rw [rps_len r]
  exact rps_take _ (rps_drop _ r)
def slP : P → Option Int → Option Int → Option Rv
  | .lst xs, lo, hi => some (.own (.lst (cutP xs lo hi)))
  | .tup xs, lo, hi => some (.val (.tup (cutP xs lo hi)))
  | .nt xs, lo, hi => if HT.sIx xs.length 0 lo = 0 ∧ HT.sIx xs.length xs.length hi = xs.length then some (.val (.nt xs)) else some (.val (.tup (cutP xs lo hi)))
  | _, _, _ => none
def rSlB (K : PySem.W.Frag) : V → Option Int → Option Int → Hp → VK → Prop := fun x lo hi H Q => rSlL K x lo hi H Q ∨ rSlA K x lo hi H Q
theorem v_sl {c : Ctx} {F H : Hp} {p : P} {x : V} {res : Rv} {Q : VK} {lo hi : Option Int} (l : Le F H) (h : Rb c F H p x) (e : slP p lo hi = some res) (k : ∀ v F' H', Gr F H F' H' → RN c H F' H' res v → Q v H') : rSlB c.K x lo hi H Q := by
  cases p with
  | lst xs =>
    cases e
    obtain ⟨a, vs, rfl, q, r⟩ := h.lst l
    exact .inl ⟨a, vs, rfl, .of q, fun p hp => k _ _ _ (gr_lst l hp) (rn_lst l hp (rps_cut r _ _))⟩
  | tup xs =>
    cases e
    obtain ⟨a, vs, rfl, q, r, r0⟩ := h.tup l
    refine .inr ⟨a, vs, rfl, q, fun z => k _ F H (Gr.refl l) ?_, fun _ p hp => k _ _ _ (gr_tup l hp) (rn_tup l hp (rps_cut r _ _))⟩
    have : cutP xs lo hi = xs := by
      unfold cutP
      rw [rps_len r, z.1, z.2]
      rw [List.drop_zero, Nat.sub_zero, ← rps_len r, List.take_length]
    rw [this]
    exact r0
  | nt xs =>
    obtain ⟨a, o, vs, rfl, hd, q, r, r0⟩ := h.nt l
    refine .inr ⟨a, vs, rfl, .inl (.inr ⟨o, q⟩), fun z => ?_, fun z p hp => ?_⟩
    · rw [← rps_len r] at z
      have e : (if HT.sIx xs.length 0 lo = 0 ∧ HT.sIx xs.length xs.length hi = xs.length then some (Rv.val (.nt xs)) else some (.val (.tup (cutP xs lo hi)))) = some res := e
      rw [if_pos z] at e
      cases e
      exact k _ F H (Gr.refl l) r0
    · rw [← rps_len r] at z
      have e : (if HT.sIx xs.length 0 lo = 0 ∧ HT.sIx xs.length xs.length hi = xs.length then some (Rv.val (.nt xs)) else some (.val (.tup (cutP xs lo hi)))) = some res := e
      rw [if_neg z] at e
      cases e
      exact k _ _ _ (gr_tup l hp) (rn_tup l hp (rps_cut r _ _))
  | _ => cases e
def tO (c : Ctx) (w : Wi) (f : M (Option Int)) : TO := fun σ H Q => ∃ F π, w.g σ F ∧ SR c F π σ H ∧ Po c w.W F π σ H (f π) (fun b π' F' H' => Q b H')
def noP : M (Option Int) := fun π => .ok none π
def inP (f : M Rs) : M (Option Int) := fun π => (f π).bind fun r π1 => match r with
  | .val (.int i) => .ok (some i) π1
  | _ => .bad
def slR (r : Rs) (lo hi : Option Int) : M Rs := fun π => match rdP π r with
  | some p => outR (slP p lo hi) π
  | none => .bad
def slF (f : M Rs) (g h : M (Option Int)) : M Rs := fun π => (f π).bind fun r π1 => (g π1).bind fun lo π2 => (h π2).bind fun hi => slR r lo hi
theorem po_weak {X : Cx} {e : Option Expr} {t t' : TO} (h : PO X e t) (k : ∀ σ H Q, t' σ H Q → t σ H Q) : PO X e t' := ⟨fun pins s σ H Q I q => h.run pins s σ H Q I (k _ _ _ q)⟩
section
variable {X : Cx} {c : Ctx} {w : Wi} {e : Expr} {lo hi : Option Expr} {pos p2 : Pos} {f : M Rs} {g h : M (Option Int)}
theorem o_no : PO X none (tO c w noP) := po_weak po_none fun σ H Q ⟨F, π, gg, s, po⟩ => po F H .refl s
theorem o_in (he : PE X e (tE c w f)) : PO X (some e) (tO c w (inP f)) := po_weak (po_some he) fun σ H Q ⟨F, π, gg, s, po⟩ => by
  refine ⟨F, π, gg, s, (Po.split po).mono fun r π1 F1 H1 t1 s1 p1 x hx => ?_⟩
  cases r with
  | val p =>
    cases p with
    | int i => exact ⟨i, rp_int (show Rp c F1 (.int i) x from hx), p1 F1 H1 .refl s1⟩
    | _ => exact p1.elim
  | own o => exact p1.elim
  | bor i => exact p1.elim
theorem p_sl (hK : X.K = c.K) (he : PE X e (tE c w f)) (hl : PO X lo (tO c w g)) (hu : PO X hi (tO c w h)) : PE X (.Subscript e (.Slice lo hi none p2) pos) (tE c w (slF f g h)) :=
  pe_weak (pe_slice (r := rSlB X.K) (SlR.or sl_list sl_tupA) he hl hu) fun σ H Q ⟨F, π, gg, s, po⟩ => by
    refine ⟨F, π, gg, s, (Po.split po).mono fun r π1 F1 H1 t1 s1 p1 x hx => ⟨F1, π1, w.mono _ _ t1.le gg, s1, (Po.split p1).mono fun lo π2 F2 H2 t2 s2 p2 => ⟨F2, π2, w.mono _ _ (t1.trans t2).le gg, s2, (Po.split p2).mono fun hi π3 F3 H3 t3 s3 p3 => ?_⟩⟩⟩
    rw [hK]
    unfold slR at p3
    cases e1 : rdP π3 r with
    | none => rw [e1] at p3; exact p3.elim
    | some q1 =>
      rw [e1] at p3
      obtain ⟨rv, e3, k⟩ := outR_post s3 p3
      refine v_sl s3.le ((hx.step (t2.trans t3)).rb s3 e1) e3 fun v F4 H4 gr rn => ?_
      obtain ⟨k1, k2⟩ := k v F4 H4 gr rn
      exact k1 v (k2.base (t1.trans (t2.trans t3)))
end

/-! ### list(range(..)) -/
def lrgR (ps : List P) : M Rs := fun π => .ok (.own (.lst ps)) π
def lrgF (fi : M (List P)) : M Rs := fun π => (fi π).bind lrgR
section
variable {X : Cx} {c : Ctx} {w : Wi} {e e2 : Expr} {pos pos2 p p2 : Pos} {fa : M (List Rs)} {f g : M Rs}
theorem rps_rg {F : Hp} {i j : Int} : Rps c F (rngP i j) (rgV i j) := by
  unfold rngP rgV
  generalize List.range (j - i).toNat = l
  induction l with
  | nil => exact rps_nil
  | cons a l ih => exact rps_cons mk_int ih
theorem p_listRg1 (hc : X.calm = true) (hg : Gl X "range") (hm : X.mg "range" = none) (hg2 : Gl X "list") (hm2 : X.mg "list" = none) (ha : PE X e (tE c w f)) (na : starEach [e] X.env = (false, eval e X.env) :: starEach [] X.env := by rfl)
    (na2 : starEach [.Call (.Name "range" p) [e] [] pos] X.env = (false, eval (.Call (.Name "range" p) [e] [] pos) X.env) :: starEach [] X.env := by rfl) :
    PE X (.Call (.Name "list" p2) [.Call (.Name "range" p) [e] [] pos] [] pos2) (tE c w (lrgF (rng1F (consF f nilF)))) :=
  pe_weak (pe_listRg hc hg2 hm2 (prg_1 hg hm ha na) na2) fun σ H Q ⟨F, π, gg, s, po⟩ => by
    unfold lrgF rng1F consF nilF at po
    refine ⟨F, π, gg, s, ?_⟩
    cases e0 : f π with
    | bad => simp only [e0, Out.bind] at po; exact po
    | exc C qs π1 => simp only [e0, Out.bind] at po; exact po
    | ok r π1 =>
      simp only [e0, Out.bind] at po
      intro F1 H1 t1 s1 v hr
      have po := Po.from po t1
      cases r with
      | own o => exact po.elim
      | bor i => exact po.elim
      | val q =>
        cases q with
        | int j =>
          have hv : v = .int j := rp_int (show Rp c F1 (.int j) v from hr)
          subst hv
          refine ⟨j, rfl, ?_⟩
          simp only [rng1R] at po
          by_cases hb : -8000000 ≤ j ∧ j ≤ 8000000
          · simp only [if_pos hb] at po
            refine ⟨⟨by omega, by omega, by omega, by omega, by omega⟩, fun q hq => ?_⟩
            have gr : Gr F1 H1 F1 (L2.upd H1 q (.lst (rgV 0 j))) := gr_lst s1.le hq
            exact po _ _ gr.tr (gr.sr s1) _ ((RN.rr (rv := .own (.lst _)) s1 gr (rn_lst s1.le hq rps_rg)).base t1)
          · simp only [if_neg hb] at po; exact po.elim
        | _ => exact po.elim
theorem rng2R_exc {rs : List Rs} {π π' : En} {C : Nat} {ps : List P} (e : rng2R rs π = .exc C ps π') : False := by
  unfold rng2R at e
  split at e
  · split at e <;> cases e
  · cases e
theorem rng2R_ok {rs : List Rs} {π π' : En} {ps : List P} (e : rng2R rs π = .ok ps π') : ∃ i j : Int, ((-8000000 ≤ i ∧ i ≤ 8000000) ∧ -8000000 ≤ j ∧ j ≤ 8000000) ∧ rs = [.val (.int i), .val (.int j)] ∧ ps = rngP i j ∧ π' = π := by
  unfold rng2R at e
  split at e
  · split at e
    · rename_i hb
      cases e
      exact ⟨_, _, hb, rfl, rfl, rfl⟩
    · cases e
  · cases e
theorem p_listRg2 (hc : X.calm = true) (hg : Gl X "range") (hm : X.mg "range" = none) (hg2 : Gl X "list") (hm2 : X.mg "list" = none) (ha : PE X e (tE c w f)) (hb : PE X e2 (tE c w g)) (na : starEach [e, e2] X.env = (false, eval e X.env) :: starEach [e2] X.env := by rfl)
    (nb : starEach [e2] X.env = (false, eval e2 X.env) :: starEach [] X.env := by rfl) (hp : (backTo pos (starEach [e2] X.env)).any (·.1) = false := by rfl)
    (na2 : starEach [.Call (.Name "range" p) [e, e2] [] pos] X.env = (false, eval (.Call (.Name "range" p) [e, e2] [] pos) X.env) :: starEach [] X.env := by rfl) :
    PE X (.Call (.Name "list" p2) [.Call (.Name "range" p) [e, e2] [] pos] [] pos2) (tE c w (lrgF (rng2F (consF f (consF g nilF))))) :=
  pe_weak (pe_listRg hc hg2 hm2 (prg_2 hg hm ha hb na nb hp) na2) fun σ H Q ⟨F, π, gg, s, po⟩ => by
    unfold lrgF rng2F consF nilF at po
    refine ⟨F, π, gg, s, ?_⟩
    cases e0 : f π with
    | bad => simp only [e0, Out.bind] at po; exact po
    | exc C qs π1 => simp only [e0, Out.bind] at po; exact po
    | ok r π1 =>
      simp only [e0, Out.bind] at po
      intro F1 H1 t1 s1 v hr
      refine ⟨F1, π1, w.mono _ _ t1.le gg, s1, ?_⟩
      have po := Po.from po t1
      cases e1 : g π1 with
      | bad => simp only [e1] at po; exact po
      | exc C qs π1 => simp only [e1] at po; exact po
      | ok r2 π2 =>
        simp only [e1] at po
        intro F2 H2 t2 s2 v2 hr2
        have po := Po.from po t2
        cases e3 : rng2R [r, r2] π2 with
        | bad => rw [e3] at po; exact po.elim
        | exc C qs π3 => exact (rng2R_exc e3).elim
        | ok ps π3 =>
          rw [e3] at po
          obtain ⟨i, j, hb, er, eps, eπ⟩ := rng2R_ok e3
          cases er
          subst eps eπ
          have hv : v = .int i := rp_int (show Rp c F1 (.int i) v from hr)
          have hv2 : v2 = .int j := rp_int (show Rp c F2 (.int j) v2 from hr2)
          subst hv hv2
          refine ⟨i, j, rfl, rfl, ⟨by omega, by omega, by omega, by omega, by omega⟩, fun q hq => ?_⟩
          have gr : Gr F2 H2 F2 (L2.upd H2 q (.lst (rgV i j))) := gr_lst s2.le hq
          exact po _ _ gr.tr (gr.sr s2) _ ((RN.rr (rv := .own (.lst _)) s2 gr (rn_lst s2.le hq rps_rg)).base (t1.trans t2))
end
end PV

namespace PV
open PySem PySem.Spec L2 PyProof.Rows

/-! ### a slot's list is written -/
def slL : Sl → Option (List P)
  | .own (.lst xs) => some xs
  | .loan (.lst xs) => some xs
  | _ => none
theorem slL_ow {sl : Sl} {xs : List P} (h : slL sl = some xs) : sl.ow = some (.lst xs) := by
  cases sl with
  | own o => cases o <;> cases h; rfl
  | loan o => cases o <;> cases h; rfl
  | _ => cases h
def getL (π : En) (i : Nat) : Option (List P) := (π[i]?).bind slL
theorem getL_at {π : En} {i : Nat} {xs : List P} (h : getL π i = some xs) : ∃ sl, π[i]? = some sl ∧ slL sl = some xs := by
  unfold getL at h
  cases q : π[i]? with
  | none => rw [q] at h; cases h
  | some sl => rw [q] at h; exact ⟨sl, rfl, h⟩
def putL (π : En) (i : Nat) (ys : List P) : En := match π[i]? with
  | some sl => π.set i (sl.put (.lst ys))
  | none => π
section
variable {c : Ctx} {F H : Hp} {π : En} {σ : L2.St} {i : Nat} {xs : List P}
theorem SR.getL (s : SR c F π σ H) (h : getL π i = some xs) : ∃ a vs, σ[i]? = some (some (.ref a)) ∧ H a = some (.lst vs) ∧ Rps c F xs vs := by
  obtain ⟨sl, h1, h2⟩ := getL_at h
  obtain ⟨a, e, _, vs, q1, q2⟩ := s.ow i sl _ h1 (slL_ow h2)
  exact ⟨a, vs, e, q1, q2⟩
theorem SR.putL {ys : List P} {us : List V} {a : Addr} (s : SR c F π σ H) (h : PV.getL π i = some xs) (hσ : σ[i]? = some (some (.ref a))) (r : Rps c F ys us) : SR c F (putL π i ys) σ (L2.upd H a (.lst us)) ∧ Tr F π σ H F (putL π i ys) σ (L2.upd H a (.lst us)) := by
  obtain ⟨sl, h1, h2⟩ := getL_at h
  unfold PV.putL
  rw [h1]
  exact s.put h1 (slL_ow h2) hσ ⟨us, upd_same, r⟩
end
/-- a method of a list: what it answers, what the list then is -/
def MlV (c : Ctx) (r : V → List V → Hp → VK → Prop) (o : List P → List P → Option (P × List P)) : Prop := ∀ (F H : Hp) (xs ps : List P) (vs ws : List V) (a : Addr) (q : P) (ys : List P) (Q : VK), H a = some (.lst vs) → Rps c F xs vs → Rps c F ps ws → o xs ps = some (q, ys) →
  (∀ v us, Rp c F q v → Rps c F ys us → Q v (L2.upd H a (.lst us))) → r (.ref a) ws H Q
def mutR (o : List P → List P → Option (P × List P)) (i : Nat) (rs : List Rs) : M Rs := fun π => match getL π i, vals rs with
  | some xs, some ps => (match o xs ps with
    | some (q, ys) => .ok (.val q) (putL π i ys)
    | none => .bad)
  | _, _ => .bad
def mutF (o : List P → List P → Option (P × List P)) (i : Nat) (fa : M (List Rs)) : M Rs := fun π => if (getL π i).isSome then (fa π).bind (mutR o i) else .bad
section
variable {X : Cx} {c : Ctx} {w : Wi} {e : Expr} {es : List Expr} {name x : Str} {apos cpos pos : Pos} {id : String} {r : V → List V → Hp → VK → Prop} {o : List P → List P → Option (P × List P)} {i : Nat} {fa : M (List Rs)}
theorem tv_list {K : PySem.W.Frag} {a : Addr} {vs : List V} {H : Hp} (h : H a = some (.lst vs)) : tyV K "list" (.ref a) H := .inl ⟨rfl, vs, .of h⟩
theorem mut_post {W : WX} {F H H0 : Hp} {π π0 : En} {σ : L2.St} {rs : List Rs} {ws : List V} {a : Addr} {Q : VK} (hv : MlV c r o) (s : SR c F π σ H) (hr : RRs c π0 H0 F π σ H rs ws) (hσ : σ[i]? = some (some (.ref a)))
    (po : Po c W F π σ H (mutR o i rs π) (fun r' π' F' H' => ∀ v, RR c π0 H0 F' π' σ H' r' v → Q v H')) : r (.ref a) ws H Q := by
  unfold mutR at po
  cases e1 : getL π i with
  | none => rw [e1] at po; exact po.elim
  | some xs =>
    cases e2 : vals rs with
    | none => rw [e1, e2] at po; exact po.elim
    | some ps =>
      cases e3 : o xs ps with
      | none => simp only [e1, e2, e3] at po; exact po.elim
      | some qy =>
        obtain ⟨q, ys⟩ := qy
        simp only [e1, e2, e3] at po
        obtain ⟨b, vs, h1, h2, h3⟩ := s.getL e1
        rw [hσ] at h1
        cases h1
        refine hv F H xs ps vs ws a q ys Q h2 h3 (vals_rps hr e2) e3 fun v us rv ru => ?_
        obtain ⟨s2, t2⟩ := s.putL e1 hσ ru
        exact po F _ t2 s2 v rv
theorem p_mut (pa : PlainAttrs "list") (slot : Slot "list" name id) (hty : typeOf (.builtin id) = pure (.type "method_descriptor")) (hm : MtR X id r) (hv : MlV c r o) (ho : PE X (.Name x pos) (tE c w (varF i))) (ha : PA X (e :: es) (tR c w fa))
    (hbase : attributeBase (.Name x pos) name X.env (eval (.Name x pos) X.env) = eval (.Name x pos) X.env := by rfl)
    (hfew : ((backTo cpos (starEach (e :: es) X.env)).all (fun x => !x.1) && (backToKw cpos (keywordEach [] X.env)).all (fun x => x.1.isSome)
      && decide ((e :: es).length + ([] : List Keyword).length + (if ([] : List Keyword).isEmpty then 0 else 1) < 30)) = true := by rfl)
    (hline : (apos.endLine == cpos.line) = true := by rfl) (hs : starEach (e :: es) X.env = (false, eval e X.env) :: starEach es X.env := by rfl) (hplain : (backTo cpos (starEach es X.env)).any (·.1) = false := by rfl) :
    PE X (.Call (.Attribute (.Name x pos) name apos) (e :: es) [] cpos) (tE c w (mutF o i fa)) :=
  pe_weak (pe_bm pa slot hty hm ho ha hbase hfew hline hs hplain) fun σ H Q ⟨F, π, gg, s, po⟩ => by
    unfold mutF at po
    cases e1 : getL π i with
    | none => rw [e1] at po; exact po.elim
    | some xs =>
      rw [e1] at po
      obtain ⟨sl, h1, h2⟩ := getL_at e1
      obtain ⟨a, vs, h3, h4, h5⟩ := s.getL e1
      refine ⟨F, π, gg, s, ?_⟩
      have hvar : varF i π = .ok (.bor i) π := by
        unfold varF
        rw [h1]
        cases sl with
        | own o => rfl
        | loan o => rfl
        | _ => cases h2
      rw [hvar]
      intro F1 H1 t1 s1 v hv'
      have hv2 : v = .ref a := by
        have : σ[i]? = some (some v) := hv'
        rw [h3] at this
        exact (Option.some.inj (Option.some.inj this)).symm
      subst hv2
      obtain ⟨b, vs1, q3, q4, q5⟩ := s1.getL e1
      rw [h3] at q3
      cases q3
      refine ⟨tv_list q4, F1, π, w.mono _ _ t1.le gg, s1, (Po.split (Po.from po t1)).mono fun rs π2 F2 H2 t2 s2 p2 ws hws => ?_⟩
      exact mut_post hv s2 hws h3 (p2.mono fun r' π' F' H' t' s' k v hr => k v (RR.base hr t1 : RR c π H F' π' σ H' r' v))
theorem p_mut0 (pa : PlainAttrs "list") (slot : Slot "list" name id) (hty : typeOf (.builtin id) = pure (.type "method_descriptor")) (hm : MtR X id r) (hv : MlV c r o) (ho : PE X (.Name x pos) (tE c w (varF i)))
    (hbase : attributeBase (.Name x pos) name X.env (eval (.Name x pos) X.env) = eval (.Name x pos) X.env := by rfl) (hline : (apos.endLine == cpos.line) = true := by rfl) :
    PE X (.Call (.Attribute (.Name x pos) name apos) [] [] cpos) (tE c w (mutF o i nilF)) :=
  pe_weak (pe_bm0 pa slot hty hm ho hbase hline) fun σ H Q ⟨F, π, gg, s, po⟩ => by
    unfold mutF at po
    cases e1 : getL π i with
    | none => rw [e1] at po; exact po.elim
    | some xs =>
      rw [e1] at po
      obtain ⟨sl, h1, h2⟩ := getL_at e1
      obtain ⟨a, vs, h3, h4, h5⟩ := s.getL e1
      refine ⟨F, π, gg, s, ?_⟩
      have hvar : varF i π = .ok (.bor i) π := by
        unfold varF
        rw [h1]
        cases sl with
        | own o => rfl
        | loan o => rfl
        | _ => cases h2
      rw [hvar]
      intro F1 H1 t1 s1 v hv'
      have hv2 : v = .ref a := by
        have : σ[i]? = some (some v) := hv'
        rw [h3] at this
        exact (Option.some.inj (Option.some.inj this)).symm
      subst hv2
      obtain ⟨b, vs1, q3, q4, q5⟩ := s1.getL e1
      rw [h3] at q3
      cases q3
      refine ⟨tv_list q4, ?_⟩
      exact mut_post (rs := []) (π0 := π) (H0 := H) hv s1 rfl h3 (Po.from po t1)
/-! append, insert, pop -/
def appP : List P → List P → Option (P × List P)
  | xs, [p] => if xs.length ≤ 1000000 then some (.non, xs ++ [p]) else none
  | _, _ => none
theorem v_append : MlV c rAppend appP := by
  intro F H xs ps vs ws a q ys Q h1 h2 h3 e k
  have hs := sizeLine_eq
  unfold appP at e
  split at e
  · rename_i p
    split at e
    · cases e
      obtain ⟨v, l, rfl, r1, r2⟩ := rps_inv h3
      have := rps_nil_inv r2
      subst this
      have n1 := rps_len h2
      exact ⟨a, vs, v, rfl, rfl, h1, by omega, k _ _ mk_non (rps_append h2 (rps_cons r1 rps_nil))⟩
    · cases e
  · cases e
def insX {α : Type} (xs : List α) (k : Nat) (y : α) : List α := xs.take k ++ y :: xs.drop k
def rIns : V → List V → Hp → VK → Prop := fun x vs H Q => ∃ (l : Addr) (xs : List V) (i : Int) (y : V), x = .ref l ∧ vs = [.int i, y] ∧ H l = some (.lst xs) ∧ 0 ≤ i ∧ i ≤ 1000000 ∧ xs.length < sizeLine ∧ Q .non (L2.upd H l (.lst (insX xs i.toNat y)))
theorem mt_insert : MtR X "list.insert" rIns := by
  intro pins s σ H x vs v us Q I rx rv h
  obtain ⟨l, xs, i, y, rfl, rfl, hH, hi0, hi1, hz, q⟩ := h
  cases rx
  obtain ⟨u0, u, rfl, r0, ru⟩ := rv.two
  obtain ⟨t, rfl⟩ := r0
  obtain ⟨z, its, n, r, hl, e⟩ := I.lstM hH
  have hfit : Builtin.List.listFitsIndex i = true := by
    have := line63
    unfold Builtin.List.listFitsIndex
    simp
    omega
  refine call_meets F.slot_list_insert ⟨_, e, rfl⟩ F.entry_list_insert (F.args_list_insert_3 _ _ _) (AutoSeq1.list_insert_list_int_val_1 l its.toArray n i t u (by simp [hfit]) (by rw [List.size_toArray]; omega)) ⟨e, ?_⟩
  refine ⟨.non, _, I.lset (its' := insX its i.toNat u) (ys := insX xs i.toNat y) hH e ?_ ?_ ?_, rfl, q⟩
  · have h0 : ¬ i < 0 := by omega
    simp only [if_neg h0]
    apply Array.toList_inj.mp
    unfold insX
    simp
    have e1 : List.take (min i.toNat its.length) its = List.take i.toNat its := by
      rcases Nat.le_total i.toNat its.length with h | h
      · rw [Nat.min_eq_left h]
      · rw [Nat.min_eq_right h, List.take_length, List.take_of_length_le h]
    have e2 : List.drop (min i.toNat its.length) its = List.drop i.toNat its := by
      rcases Nat.le_total i.toNat its.length with h | h
      · rw [Nat.min_eq_left h]
      · rw [Nat.min_eq_right h, List.drop_length, List.drop_of_length_le h]
    have e3 : List.take (its.length - min i.toNat its.length) (List.drop (min i.toNat its.length) its) = List.drop (min i.toNat its.length) its := List.take_of_length_le (by rw [List.length_drop]; omega)
    rw [e3, e1, e2]
  · unfold insX
    exact (r.take _).append (.cons ru (r.drop _))
  · unfold insX
    simp
    omega
def insP : List P → List P → Option (P × List P)
  | xs, [.int i, p] => if 0 ≤ i ∧ i ≤ 1000000 ∧ xs.length ≤ 1000000 then some (.non, insX xs i.toNat p) else none
  | _, _ => none
theorem v_insert : MlV c rIns insP := by
  intro F H xs ps vs ws a q ys Q h1 h2 h3 e k
  have hs := sizeLine_eq
  unfold insP at e
  split at e
  · rename_i i p
    split at e
    · cases e
      obtain ⟨v0, l0, rfl, r0, r9⟩ := rps_inv h3
      obtain ⟨v, l, rfl, r1, r2⟩ := rps_inv r9
      have := rps_nil_inv r2
      subst this
      cases rp_int r0
      have n1 := rps_len h2
      refine ⟨a, vs, i, v, rfl, rfl, h1, by omega, by omega, by omega, k _ _ mk_non ?_⟩
      unfold insX
      exact rps_append (rps_take _ h2) (rps_cons r1 (rps_drop _ h2))
    · cases e
  · cases e
def popP : List P → List P → Option (P × List P)
  | xs, [] => match xs[xs.length - 1]? with
    | some q => some (q, xs.dropLast)
    | none => none
  | _, _ => none
theorem rps_dropLast {F : Hp} : ∀ {ps : List P} {vs : List V}, Rps c F ps vs → Rps c F ps.dropLast vs.dropLast := fun {ps vs} r => by
  rw [List.dropLast_eq_take, List.dropLast_eq_take, rps_len r]
  exact rps_take _ r
theorem v_pop : MlV c rPop popP := by
  intro F H xs ps vs ws a q ys Q h1 h2 h3 e k
  unfold popP at e
  split at e
  · split at e
    · rename_i p hp
      cases e
      have := rps_nil_inv h3
      subst this
      obtain ⟨v, e1, r1⟩ := rps_get h2 hp
      rw [rps_len h2] at e1
      exact ⟨a, vs, v, rfl, rfl, h1, e1, k _ _ r1 (rps_dropLast h2)⟩
    · cases e
  · cases e
end
end PV

namespace PV
open PySem PySem.Spec L2 PyProof.Rows

/-! ### xs[k] = e, xs a slot's list -/
def stR (i : Nat) (p : P) (r : Rs) : M Fl := fun π => match r, getL π i with
  | .val (.int k), some xs => (match ixN xs.length k with
    | some j => .ok .nx (putL π i (xs.set j p))
    | none => .bad)
  | _, _ => .bad
def stF (i : Nat) (fe : M P) (fi : M Rs) : M Fl := fun π => (fe π).bind fun p π1 => if (getL π1 i).isSome then (fi π1).bind (stR i p) else .bad
section
variable {X : Cx} {c : Ctx} {w : Ws} {e ie : Expr} {x : Str} {xp tp pos : Pos} {i : Nat} {fe : M P} {fi : M Rs}
theorem s_st (ho : PE X (.Name x xp) (tE c w (varF i))) (hi : PE X ie (tE c w fi)) (he : PE X e (tV c w fe))
    (ha : ∀ v, assign (.Subscript (.Name x xp) ie tp) X.env v = (do
      let ov ← holding [v] (eval (.Name x xp) X.env)
      let iv ← holding [v, ov] (eval ie X.env)
      standAt tp
      holding [v, ov, iv] (setItem ov iv v)
      release [v, ov, iv] []) := by intro _; rfl)
    (hs : swapsWithSole [.Subscript (.Name x xp) ie tp] e pos.line X.env = pure false := by rfl) (hw : swappedStores [.Subscript (.Name x xp) ie tp] e X.env = pure none := by rfl)
    (h1 : (assignEach [.Subscript (.Name x xp) ie tp] X.env).map (·.2) = [assign (.Subscript (.Name x xp) ie tp) X.env] := by rfl) :
    PS X (.Assign [.Subscript (.Name x xp) ie tp] e pos) (tS c w (stF i fe fi)) :=
  ps_weak (ps_asg he (pg_sub ho hi set_list ha) hs hw h1) fun D σ H ⟨F, π, gg, s, po⟩ => by
    refine ⟨F, π, gg, s, (PoS.split po).mono fun p π1 F1 H1 t1 s1 p1 v hp => ?_⟩
    cases e1 : getL π1 i with
    | none => rw [e1] at p1; exact p1.elim
    | some xs =>
      rw [e1] at p1
      obtain ⟨sl, h1, h2⟩ := getL_at e1
      refine ⟨F1, π1, w.mono _ _ t1.le gg, s1, ?_⟩
      have hvar : varF i π1 = .ok (.bor i) π1 := by
        unfold varF
        rw [h1]
        cases sl with
        | own o => rfl
        | loan o => rfl
        | _ => cases h2
      rw [hvar]
      intro F2 H2 t2 s2 v2 hv2
      refine ⟨F2, π1, w.mono _ _ (t1.trans t2).le gg, s2, (PoS.split (PoS.from (show PoS c w.W F1 π1 σ H1 ((fi π1).bind (stR i p)) _ from p1) t2)).mono fun r π3 F3 H3 t3 s3 p3 y hy => ?_⟩
      unfold stR at p3
      cases r with
      | own o => exact p3.elim
      | bor j => exact p3.elim
      | val q =>
        cases q with
        | int k =>
          cases e3 : getL π3 i with
          | none => simp only [e3] at p3; exact p3.elim
          | some ys =>
            cases e4 : ixN ys.length k with
            | none => simp only [e3, e4] at p3; exact p3.elim
            | some j =>
              simp only [e3, e4] at p3
              obtain ⟨a, vs, q1, q2, q3⟩ := s3.getL e3
              have hv3 : v2 = .ref a := by
                have z : σ[i]? = some (some v2) := hv2
                rw [q1] at z
                exact (Option.some.inj (Option.some.inj z)).symm
              obtain ⟨s4, t4⟩ := s3.putL e3 q1 (rps_set j q3 (Rp.mono (t2.trans t3).le _ _ hp))
              refine ⟨a, vs, k, j, hv3, rp_int (show Rp c F3 (.int k) y from hy), q2, by rw [← rps_len q3]; exact e4, ?_⟩
              exact p3 F3 σ _ t4 s4
        | _ => exact p3.elim
end
/-! ### x, y = e, e' -/
def RQ (c : Ctx) (F : Hp) (π : En) (σ : L2.St) (H : Hp) : Rs → V → Prop
  | .val p, v => Rp c F p v
  | .own o, v => ∃ a, v = .ref a ∧ F a = none ∧ ¬ Own π σ a ∧ OwR c F H o a
  | .bor _, _ => True
theorem RR.rq {c : Ctx} {π0 : En} {H0 F : Hp} {π : En} {σ : L2.St} {H : Hp} {r : Rs} {v : V} (h : RR c π0 H0 F π σ H r v) : RQ c F π σ H r v := by
  cases r with
  | val p => exact h
  | own o => obtain ⟨a, e, h1, h2, h3, _⟩ := h; exact ⟨a, e, h1, h2, h3⟩
  | bor i => trivial
theorem setR_step {c : Ctx} {W : WX} {F H : Hp} {π : En} {σ : L2.St} {i : Nat} {r : Rs} {v : V} {α : Type} {f : Fl → M α} {J : α → En → Hp → L2.St → Hp → Prop} {F0 H9 : Hp} {π9 : En} {σ9 : L2.St} (s : SR c F π σ H) (hr : RQ c F π σ H r v) (po : PoS c W F0 π9 σ9 H9 ((setR i r π).bind f) J) :
    ∃ π', setR i r π = .ok .nx π' ∧ SR c F π' (σ.set i (some v)) H ∧ (∀ F1 π1 σ1 H1, Tr F1 π1 σ1 H1 F π σ H → (∀ a o, v = .ref a → r = .own o → Fr0 π1 σ1 H1 a) → Tr F1 π1 σ1 H1 F π' (σ.set i (some v)) H) ∧
      ∀ b, Own π' (σ.set i (some v)) b → Own π σ b ∨ (v = .ref b ∧ ∃ o, r = .own o) := by
  simp only [setR] at po ⊢
  cases q : π[i]? with
  | none => rw [q] at po; exact po.elim
  | some sl =>
    rw [q] at po
    have hi : i < π.length := (List.getElem?_eq_some_iff.mp q).1
    have hσ : i < σ.length := by rw [← s.len]; exact hi
    have own' : ∀ (new : Sl) b, Own (π.set i new) (σ.set i (some v)) b → Own π σ b ∨ (v = .ref b ∧ ∃ o, new.ow = some o) := fun new b ⟨j, sl, o, e1, e2, e3⟩ => by
      by_cases z : j = i
      · subst z
        rw [List.getElem?_set_self hi] at e1
        rw [List.getElem?_set_self hσ] at e3
        cases e1
        exact .inr ⟨Option.some.inj (Option.some.inj e3), o, e2⟩
      · rw [List.getElem?_set_ne (Ne.symm z)] at e1 e3
        exact .inl ⟨j, sl, o, e1, e2, e3⟩
    have main : (∀ o, sl ≠ .loan o) → PoS c W F0 π9 σ9 H9 (Out.bind (match r with | .val p => .ok .nx (π.set i (.val p)) | .own o => .ok .nx (π.set i (.own o)) | .bor _ => Out.bad) f) J → ∃ π', (match r with | .val p => Out.ok Fl.nx (π.set i (.val p)) | .own o => .ok .nx (π.set i (.own o)) | .bor _ => Out.bad) = .ok .nx π' ∧ SR c F π' (σ.set i (some v)) H ∧
        (∀ F1 π1 σ1 H1, Tr F1 π1 σ1 H1 F π σ H → (∀ a o, v = .ref a → r = .own o → Fr0 π1 σ1 H1 a) → Tr F1 π1 σ1 H1 F π' (σ.set i (some v)) H) ∧ ∀ b, Own π' (σ.set i (some v)) b → Own π σ b ∨ (v = .ref b ∧ ∃ o, r = .own o) := fun hn po => by
      have hl : ∀ o, π[i]? ≠ some (.loan o) := fun o z => by rw [q] at z; exact hn o (Option.some.inj z)
      cases r with
      | val p =>
        obtain ⟨s2, t2⟩ := s.set hi hl (.val p) (some v) (fun p' e => by cases e; exact ⟨v, rfl, hr⟩) (fun o e => by cases e) (fun o e => by cases e)
        refine ⟨_, rfl, s2, fun F1 π1 σ1 H1 t fr => t2 _ _ _ _ t (fun a e ⟨o, h⟩ => by cases h), fun b hb => ?_⟩
        rcases own' _ b hb with h | ⟨_, o, h⟩
        · exact .inl h
        · cases h
      | own o =>
        obtain ⟨a, rfl, h1, h2, h3⟩ := hr
        obtain ⟨s2, t2⟩ := s.set hi hl (.own o) (some (.ref a)) (fun p' e => by cases e) (fun o e => by cases e; exact ⟨a, rfl, h1, h3, h2⟩) (fun o e => by cases e)
        refine ⟨_, rfl, s2, fun F1 π1 σ1 H1 t fr => t2 _ _ _ _ t (fun b e _ => by cases e; exact fr a o rfl rfl), fun b hb => ?_⟩
        rcases own' _ b hb with h | ⟨h, _⟩
        · exact .inl h
        · exact .inr ⟨h, o, rfl⟩
      | bor j => exact po.elim
    cases sl with
    | loan o => exact po.elim
    | no => exact main (fun o z => by cases z) po
    | val p => exact main (fun o z => by cases z) po
    | own o => exact main (fun o z => by cases z) po
def parF (i j : Nat) (f g : M Rs) : M Fl := fun π => (f π).bind fun r1 π1 => (g π1).bind fun r2 π2 => (setR i r1 π2).bind fun _ => setR j r2
section
variable {X : Cx} {c : Ctx} {w : Ws} {a b : Expr} {x y : Str} {px py pt pos : Pos} {kt k2 pt2} {i j : Nat} {f g : M Rs}
theorem s_par (hc : X.calm = true) (hN : X.N.Nodup) (hi : X.N[i]? = some x) (hj : X.N[j]? = some y) (hij : i ≠ j)
    (hx : X.env.scope.names.lookup x = some .local) (hy : X.env.scope.names.lookup y = some .local) (ha : PE X a (tE c w f)) (hb : PE X b (tE c w g))
    (hw : swappedStores [.Tuple [.Name x px, .Name y py] kt pt] (.Tuple [a, b] k2 pt2) X.env = pure (some [x, y]))
    (s1 : starEach [a, b] X.env = (false, eval a X.env) :: starEach [b] X.env := by rfl) (s2 : starEach [b] X.env = (false, eval b X.env) :: starEach [] X.env := by rfl)
    (hs : swapsWithSole [.Tuple [.Name x px, .Name y py] kt pt] (.Tuple [a, b] k2 pt2) pos.line X.env = pure false := by rfl) :
    PS X (.Assign [.Tuple [.Name x px, .Name y py] kt pt] (.Tuple [a, b] k2 pt2) pos) (tS c w (parF i j f g)) :=
  ps_weak (ps_par hc hN hi hj hij hx hy (pa_cons ha (pa_cons hb pa_nil s2) s1) hw hs) fun D σ H ⟨F, π, gg, s, po⟩ => by
    refine ⟨F, π, gg, s, ?_⟩
    unfold parF at po
    cases e0 : f π with
    | bad => rw [e0] at po; exact po
    | exc C qs π1 => rw [e0] at po; exact fun F' H' d t s => po F' σ H' d t s
    | ok r1 π1 =>
      rw [e0] at po
      intro F1 H1 t1 s1 v hv
      refine ⟨F1, π1, w.mono _ _ t1.le gg, s1, ?_⟩
      simp only [Out.bind] at po
      cases e1 : g π1 with
      | bad => rw [e1] at po; exact po
      | exc C qs π2 => rw [e1] at po; exact fun F' H' d t s => po F' σ H' d (t1.trans t) s
      | ok r2 π2 =>
        rw [e1] at po
        intro F2 H2 t2 s2 u hu
        refine ⟨v, u, rfl, ?_⟩
        have hv2 := hv.step t2
        have po2 : PoS c w.W F π σ H ((setR i r1 π2).bind fun _ => setR j r2) (flK c D π σ H) := po
        obtain ⟨π3, e3, s3, t3, o3⟩ := setR_step s2 hv2.rq po2
        rw [e3] at po2
        have po3 : PoS c w.W F π σ H ((setR j r2 π3).bind fun fl π' => .ok fl π') (flK c D π σ H) := by
          have po2' : PoS c w.W F π σ H (setR j r2 π3) (flK c D π σ H) := po2
          cases e5 : setR j r2 π3 with
          | bad => rw [e5] at po2'; exact po2'
          | exc C qs π2 => rw [e5] at po2'; exact po2'
          | ok fl π4 => rw [e5] at po2'; exact po2'
        have T3 := t3 F π σ H (t1.trans t2) fun a o ev er => by
          subst er
          obtain ⟨a', e4, _, _, _, fr⟩ := hv2
          rw [ev] at e4
          cases e4
          exact fr
        have hu3 : RQ c F2 π3 (σ.set i (some v)) H2 r2 u := by
          cases r2 with
          | val p => exact hu
          | bor k => trivial
          | own o =>
            obtain ⟨a2, e4, h1, h2, h3, h4⟩ := hu
            refine ⟨a2, e4, h1, fun z => ?_, h3⟩
            rcases o3 a2 z with q | ⟨q, o1, q2⟩
            · exact h2 q
            · subst q2
              obtain ⟨a1, e5, k1, k2, k3, k4⟩ := hv
              rw [q] at e5
              cases e5
              obtain ⟨uu, hu1⟩ := k3.there
              rcases h4 with h4 | h4
              · rw [hu1] at h4; cases h4
              · exact k2 h4
        obtain ⟨π4, e4, s4, t4, _⟩ := setR_step s3 hu3 po3
        have po4 : PoS c w.W F π σ H (setR j r2 π3) (flK c D π σ H) := po2
        rw [e4] at po4
        refine po4 F2 _ H2 (t4 F π σ H T3 fun a o ev er => ?_) s4
        subst er
        obtain ⟨a', e5, _, _, _, fr⟩ := hu
        rw [ev] at e5
        cases e5
        exact Fr0.back t1 fr
end
end PV

set_option maxHeartbeats 2000000
/-! PVS: a def whose first statement is super().__init__(..), of an own exception class over ValueError. -/
namespace PV
open PySem PySem.Spec L2 NdefX PyProof.Rows

section
variable {X : Cx} {pins : List (Addr × Obj)} {σ : L2.St} {H : Hp} {s : Shared} {a C u : Addr} {E : Value → Shared → Prop} {A : Around}
/-- the bound __init__ of ValueError, called: nothing of it is told -/
theorem mw_call {us : List Value} {Q : Value → Shared → Prop} (T : OexC X.K C) (I : L2.Inv X pins σ H s) (e : H a = some (exo a C none)) (hu : s.heap.get? u = some (PySem.W.kxs_mw "ValueError.__init__" a)) (hl : us.length ≤ sizeLine) (h : ∀ s', L2.Inv X pins σ H s' → Q .none s') :
    wpAny (model X.prog X.w) A (call (.ref u) us) Q E s := by
  obtain ⟨nm, q, N, bs, bm, sn, sub, ab, col, dd, k0, k1, k2, k3, k5, hC, hbm⟩ := T.cls
  obtain ⟨t1, ho⟩ := exo_at I.hok e
  obtain ⟨hp, g, d, t, os⟩ := s
  refine wpAny_call (codeAny_of_tree ?_)
  show wpAny _ A.in1 (callAny (.ref u) ⟨us, []⟩) _ _ _
  simp only [callAny]
  refine wpAny_bind (wpAny_load hu ?_)
  simp only [PySem.W.kxs_mw, show (Value.type "method-wrapper" == Value.type "method" || Value.type "method-wrapper" == Value.type "builtin_function_or_method" || Value.type "method-wrapper" == Value.type "method-wrapper") = true by decide, if_true]
  refine PySem.W.KFB.if_so (by decide) ?_
  refine wpAny_bind (PySem.W.check_bound_init F.excBase_ValueError.toExcCallFacts (I.kIn _ _ hC) ho rfl ?_)
  refine wpAny_bind (wpAny_pure (wpAny_pure ?_))
  refine ⟨plainId_quiet F.excBase_ValueError.init.plain _, codeAny_builtin F.excBase_ValueError.initEntry ?_⟩
  refine PySem.W.exc_init_tree (cls := .ref C) (t0 := t1) (dv := none) (c2 := .none) (c3 := .none) (b4 := .bool false) ho hl fun h' k hx _ => ?_
  have J := I.write (t' := t) (x := a) (e := a) (o := exo a C none) (by rw [e]; exact True.intro) (.inl rfl) k ⟨_, hx⟩ (exo_ok hx)
  have eu : upd H a (exo a C none) = H := by
    funext b
    by_cases hb : b = a
    · rw [hb, upd_same, e]
    · rw [upd_ne hb]
  rw [eu] at J
  exact h _ J
end

/-- what the written part says around a def that says super() -/
structure SupAt (P : Program) (K : PySem.W.Frag) (cc D cda : Addr) : Prop where
  code : ∃ ccl cdd cvs ccs file tf, K.lookup cda = some ⟨ccl, cdd, .fields cvs, ccs⟩ ∧ cvs[2]? = some (.str file tf) ∧ ((P.main.file : Str) == file) = true
  cell : ∃ cl cld csl, K.lookup cc = some ⟨cl, cld, .cell (some (.ref D)), csl⟩
  cls : ∃ cd, PySem.W.clsIn K D = some cd
  top : (P.main.scope.names.lookup ("super" : Str)).isSome = false
  any : PySem.W.nsIn K cStatics "thirdparty.any" = some none
/-- the class of the object that is made -/
structure SupC (K : PySem.W.Frag) (C D : Addr) : Prop where
  oex : OexC K C
  mro : PySem.W.mroIn K C (.ref D) = some true
  sup : PySem.W.ks_superIn K C D "__init__" = some (some (.builtin "ValueError.__init__"))
  sub : PySem.W.subIn K (.ref C) (.type "ValueError") = some true

theorem super_fn {CX : CXT} {P : Program} {w : World} {K : PySem.W.Frag} {mg : Str → Option Value} {base : Heap} {k : Nat} {f : Addr} {name qual : Str} {params : Arguments} {rest : List Stmt} {scope : Scope} {kV doc pm ct oc : Value} {an od : Option Addr} {cda cc D : Addr}
    {osl : Array (Option Value)} {N ps : List Str} {sp : Sp} {e : Expr} {es : List Expr} {p0 p1 ap cp ep : Pos} {ar : Arg}
    (lk : K.lookup f = some ⟨oc, od, .func (PySem.W.fnX name qual params (.Expr (.Call (.Attribute (.Call (.Name "super" p0) [] [] p1) "__init__" ap) (e :: es) [] cp) ep :: rest) scope [("__class__", cc)] .none kV doc pm an (.ref cda) ct), osl⟩)
    (hcd : PySem.W.codeIn K (.ref cda) qual = true) (S : NScope N ps ["__class__"] scope) (len : ∀ vs H Q E, sp vs H Q E → vs.length = ps.length)
    (T : SupAt P K cc D cda) (hms : mg "super" = none) (hks : scope.names.lookup ("super" : Str) = some .globalImplicit) (hp : (params.posonlyargs ++ params.args).head? = some ar) (har : ps[0]? = some ar.arg)
    (hee : ∀ env : Env, starEach (e :: es) env = (false, eval e env) :: starEach es env) (hpl : ∀ env : Env, (backTo cp (starEach es env)).any (·.1) = false) (hps : ∀ env : Env, ∃ pl : Sem Bool, eval (.Call (.Attribute (.Call (.Name "super" p0) [] [] p1) "__init__" ap) (e :: es) [] cp) env = (do
      let ov ← attributeBase (.Call (.Name "super" p0) [] [] p1) "__init__" env (eval (.Call (.Name "super" p0) [] [] p1) env)
      standAt ap.atName
      let (f, first) ← holding [ov] (getMethod ov "__init__" pl)
      callWith cp f first (backTo cp (starEach (e :: es) env)) []))
    (hi : ∀ L, interactive (PySem.W.envX qual scope L f (.ref cda) [("__class__", cc)]) = false) (hsw : ∀ env : Env, swapsWith (.Call (.Attribute (.Call (.Name "super" p0) [] [] p1) "__init__" ap) (e :: es) [] cp) none ep.line env = pure false)
    (hbody : ∀ (A : Around) (outer : List Env) (s : Shared) (H : Hp) (vs : List V) (Q : VK) (E : XK), Room k (A.deeper (envF ⟨name, qual, params, .Expr (.Call (.Attribute (.Call (.Name "super" p0) [] [] p1) "__init__" ap) (e :: es) [] cp) ep :: rest, scope, [("__class__", cc)], cda⟩ f s.heap.objs.size)) → sp vs H Q E →
      ∃ a C ta t, vs[0]? = some (.ref a) ∧ H a = some (exo a C none) ∧ SupC K C D ∧
        PA (ncx CX P w K mg base N ⟨name, qual, params, .Expr (.Call (.Attribute (.Call (.Name "super" p0) [] [] p1) "__init__" ap) (e :: es) [] cp) ep :: rest, scope, [("__class__", cc)], cda⟩ f A outer s H E) (e :: es) ta ∧
        PSs (ncx CX P w K mg base N ⟨name, qual, params, .Expr (.Call (.Attribute (.Call (.Name "super" p0) [] [] p1) "__init__" ap) (e :: es) [] cp) ep :: rest, scope, [("__class__", cc)], cda⟩ f A outer s H E) rest t ∧
        ta (startF N vs [none]) H (fun ws H1 => ws.length ≤ 1000 ∧ H1 a = some (exo a C none) ∧ t { nx := fun _ H' => Q .non H', rt := Q } (startF N vs [none]) H1)) :
    FnOk P w K mg base CX (k + 1) f (PySem.W.fnX name qual params (.Expr (.Call (.Attribute (.Call (.Name "super" p0) [] [] p1) "__init__" ap) (e :: es) [] cp) ep :: rest) scope [("__class__", cc)] .none kV doc pm an (.ref cda) ct) ps sp := by
  refine ⟨len, fun A outer s H args us vs Q E hr e0 hb r hsp => ?_⟩
  have hl := len _ _ _ _ hsp
  have KX : K.In s.heap := e0.mod.kin.keeps fun b o e => (e0.bs b o e).1
  have lim : s.heap.NoLimit := e0.mod.nolimit.keeps fun b o e => (e0.bs b o e).1
  obtain ⟨ccl, cdd, cvs, ccs, file, tf, lcode, hvs, hfile⟩ := T.code
  obtain ⟨cl0, cld, csl, lcell⟩ := T.cell
  have inB : ∀ {b : Addr} {o : Obj}, K.lookup b = some o → H b = none := fun {b o} q => (e0.bs b o (e0.mod.kin _ _ q)).2
  have Cc : CellsAt [("__class__", cc)] ["__class__"] [none] s.heap H := by
    have lk1 : ∀ y c, List.lookup y [(("__class__" : Str), cc)] = some c → y = "__class__" ∧ c = cc := fun y c q => by
      have q' : (match y == ("__class__" : Str) with | true => some cc | false => none) = some c := q
      cases e3 : y == ("__class__" : Str) with
      | true => rw [e3] at q'; exact ⟨by simpa using e3, (Option.some.inj q').symm⟩
      | false => rw [e3] at q'; cases q'
    refine ⟨rfl, fun y c q => ?_, fun x y c q1 q2 => ?_, fun i y q => ?_⟩
    · obtain ⟨_, rfl⟩ := lk1 y c q
      exact ⟨inB lcell, _, _, KX _ _ lcell, rfl⟩
    · rw [(lk1 x c q1).1, (lk1 y c q2).1]
    · have hy : y = "__class__" := by
        cases i with
        | zero => simpa using q.symm
        | succ i => simp at q
      subst hy
      refine ⟨cc, rfl, fun v q => ?_⟩
      cases i with
      | zero => simp at q
      | succ i => simp at q
  refine ks_codeAny_call_defAt (binds := ps.zip us) hr.depth (KX _ _ lk) rfl lim (PySem.W.codeRec_of KX hcd) rfl hb S.nocell (fun ⟨n, _⟩ hy => S.par n (List.of_mem_zip hy).1) (fun h₁ hns kp => ?_) S.co S.gen S.kind
  have kp' : ∀ b o, s.heap.get? b = some o → h₁.get? b = some o := kp
  obtain ⟨a, C, ta, t, hv0, hHa, SC, hA, hR, hq⟩ := hbody A outer s H vs Q E (hr.deeper _) hsp
  have I : L2.Inv (ncx CX P w K mg base N ⟨name, qual, params, .Expr (.Call (.Attribute (.Call (.Name "super" p0) [] [] p1) "__init__" ap) (e :: es) [] cp) ep :: rest, scope, [("__class__", cc)], cda⟩ f A outer s H E) [] (startF N vs [none]) H { s with heap := h₁, toks := s.toks + (ps.zip us).length } :=
    inv_startN S hr.hd e0 hl r Cc hns kp'
  have fin : ∀ {σ' : L2.St} {H' : Hp} {v : V} {u : Value} {s' : Shared}, L2.Inv (ncx CX P w K mg base N ⟨name, qual, params, .Expr (.Call (.Attribute (.Call (.Name "super" p0) [] [] p1) "__init__" ap) (e :: es) [] cp) ep :: rest, scope, [("__class__", cc)], cda⟩ f A outer s H E) [] σ' H' s' → L2.RelV v u → Q v H' → CE outer P w H s Q u s' :=
    fun {σ' H' v u s'} J rv q => ⟨v, H', J.os, J.bare, J.base, J.hok, rv, q⟩
  obtain ⟨cdD, hD⟩ := T.cls
  obtain ⟨u0, hu0, ru0⟩ := r.get hv0
  obtain rfl : u0 = Value.ref a := ru0
  have KI := I.kIn
  obtain ⟨oD, hD1, hD2⟩ : ∃ oD, h₁.get? D = some oD ∧ oD.data = .cls cdD := by
    unfold PySem.W.clsIn at hD
    split at hD
    · rename_i c d cd' sl ho
      cases hD
      exact ⟨_, KI _ _ ho, rfl⟩
    · cases hD
  obtain ⟨t1, hoa⟩ := exo_at I.hok hHa
  obtain ⟨pl, hcall⟩ := hps (PySem.W.envX qual scope s.heap.objs.size f (.ref cda) [("__class__", cc)])
  have hkc : scope.names.lookup ("__class__" : Str) = some .free := S.frk _ List.mem_cons_self
  have ndP : ps.Nodup := by
    have q : (ps ++ [("__class__" : Str)]).Nodup := by rw [← S.pre]; exact S.nd.sublist (List.take_sublist _ N)
    exact (List.nodup_append.mp q).1
  show _root_.PySem.wpAt (model P w) (A.deeper (PySem.W.ksEnv qual scope s.heap.objs.size f (.ref cda) cc)) (.func _ (PySem.W.ksEnv qual scope s.heap.objs.size f (.ref cda) cc)) (execs _ (PySem.W.ksEnv qual scope s.heap.objs.size f (.ref cda) cc)) _ _ _
  refine ks_wpAt_execs_cons (ks_wpAt_Expr_any (ks_wpAt_MethodCall ?_ hcall) (hi _) (hsw _))
  refine ks_wpAt_super_base (env := PySem.W.ksEnv qual scope s.heap.objs.size f (.ref cda) cc) hks hkc (by decide) rfl (KI _ _ lk) rfl hp rfl (KI _ _ lcode) rfl hvs hfile T.top ?_
  obtain ⟨mb, hb1, hb2⟩ := I.mod.blt
  refine PySem.W.ks_loadName_global S.kind hks (Calls.loadGlobal_builtin (env := PySem.W.ksEnv qual scope s.heap.objs.size f (.ref cda) cc) (I.mod.glob.keeps I.bk) hms (hb1.keeps I.bk) ((hb2 _ (by decide)).trans (show bootBuiltins "super" = some (.type "super") by decide +kernel)) ⟨rfl, ?_⟩)
  refine wpAny_loadName_free S.kind hkc rfl ⟨_, KI _ _ lcell, rfl⟩ ?_
  refine wpAny_loadName_local (m := fun y => (ps.zip us).reverse.lookup y) S.kind (S.par _ (List.mem_of_getElem? har)) hns (zip_look ndP har hu0) ?_
  refine ks_wpAny_isType_cls hD1 hD2 ⟨rfl, ?_⟩
  refine ks_wpAny_call_super hD1 hD2 hoa rfl (fun c q => by cases q) (PySem.W.looks_mroIn KI SC.mro) (fun h2 hso k2 => ?_)
  have I2 := I.kept (t' := s.toks + (ps.zip us).length) k2
  cases hcm : PySem.W.clsIn K C with
  | none =>
    have z := SC.sup
    unfold PySem.W.ks_superIn at z
    rw [hcm] at z
    cases z
  | some cd =>
    have hsup := SC.sup
    unfold PySem.W.ks_superIn at hsup
    rw [hcm] at hsup
    have KI2 := I2.kIn
    have hoa2 := k2 _ _ hoa
    have hxC : a ≠ C := fun z => by
      unfold PySem.W.clsIn at hcm
      split at hcm
      · rename_i c d cd' sl ho
        have q := inB ho
        rw [← z, hHa] at q
        cases q
      · cases hcm
    have LT : PySem.W.Looks (model P w) h2 (typeOf (.ref a)) (.ref C) := fun A Q E s k q => wpAny_typeOf_ref (k _ _ hoa2) q
    have LI : PySem.W.Looks (model P w) h2 (isInstance (.ref a) (.type "ValueError")) true := LT.andThen (PySem.W.looks_subIn KI2 SC.sub)
    refine PySem.W.kxs_getMethod PySem.W.kxs_ValueError hso (PySem.W.looks_opaque KI2 T.any) (l₀ := cd.mro) ?_ rfl KI2 hsup LI hxC (by decide) ?_
    · exact fun A Q E s k q => wpAny_bind ((PySem.W.looks_clsIn KI2 hcm) A _ E s k (wpAny_pure q))
    · have I3 := I2.kept (h' := h2.push (PySem.W.kxs_mw "ValueError.__init__" a)) (t' := s.toks + (ps.zip us).length + 1) fun b o q => Heap.get?_push_of_some _ q
      have hu3 : (h2.push (PySem.W.kxs_mw "ValueError.__init__" a)).get? h2.objs.size = some (PySem.W.kxs_mw "ValueError.__init__" a) := Heap.get?_push_size _ rfl
      have I4 := I3.pins_of (pins' := [(h2.objs.size, PySem.W.kxs_mw "ValueError.__init__" a)]) fun p hp => by
        have e1 : p = (h2.objs.size, PySem.W.kxs_mw "ValueError.__init__" a) := by simpa using hp
        subst e1
        exact ⟨hu3, I2.hok.fresh (Nat.le_refl _), Nat.ne_of_gt I2.lt, I2.nofs (Nat.le_refl _), fun v q => by cases q⟩
      refine PySem.W.kxs_callWith (i := "ValueError.__init__") (x := a) (by rw [hee]; exact (Bool.false_or _).trans (hpl _)) ?_
      rw [hee]
      refine Calls.evalArgs_plain ?_
      have hrun := hA.run cp _ _ _ _ _ I4 hq
      rw [show starEach (e :: es) (ncx CX P w K mg base N ⟨name, qual, params, .Expr (.Call (.Attribute (.Call (.Name "super" p0) [] [] p1) "__init__" ap) (e :: es) [] cp) ep :: rest, scope, [("__class__", cc)], cda⟩ f A outer s H E).env = _ from hee _] at hrun
      refine thn hrun fun us4 s4 ⟨vs4, H4, I5, r4, hz, hH4, q4⟩ => ?_
      have hu5 := (I5.pin (h2.objs.size, PySem.W.kxs_mw "ValueError.__init__" a) (List.mem_append_right _ List.mem_cons_self)).1
      refine ⟨hu5, mw_call SC.oex I5 hH4 hu5 (by have q := Paired.length r4; have q2 := sizeLine_eq; show us4.length ≤ _; omega) fun s5 I6 => ?_⟩
      refine wpAt_of_wpAny (wpAny_mono (hR.run [] s5 _ H4 _ (I6.pins_of fun p hp => by cases hp) q4) (fun fl s' hs => ?_) fun e s' hs => hs)
      cases fl with
      | ret u =>
        obtain ⟨v, σ', H', J, rv, q⟩ := hs
        exact fin J rv q
      | next =>
        obtain ⟨σ', H', J, q⟩ := hs
        exact fin (v := V.non) (u := Value.none) J rfl q
      | brk =>
        obtain ⟨_, _, _, q⟩ := hs
        exact False.elim q
      | cont =>
        obtain ⟨_, _, _, q⟩ := hs
        exact False.elim q
end PV

namespace PV
open PySem PySem.Spec L2 NdefX PyProof.Rows

/-! ### own exception classes -/
/-- the promise of an own exception's __init__: n fields -/
def spI (C : Addr) (n : Nat) (fls : List Str) : Sp := fun vs H Q _ => ∃ (a : Addr) (ws : List V), vs = .ref a :: ws ∧ ws.length = n ∧ H a = some (exo a C none) ∧
  ∀ (d : Addr) (H2 : Hp), H d = none → d ≠ a → H2 a = some (exo a C (some d)) → H2 d = some (exd d (fls.zip ws).reverse) → (∀ b, b ≠ a → b ≠ d → H2 b = H b) → Q .non H2

section
variable {CX : CXT} {P : Program} {w : World} {K : PySem.W.Frag} {mg : Str → Option Value} {base : Heap} {k : Nat} {f : Addr} {name qual : Str} {params : Arguments} {scope : Scope} {kV doc pm ct oc : Value} {an od : Option Addr} {cda cc D C : Addr}
    {osl : Array (Option Value)}
theorem init1_ok {x f1 : Str} {p0 p1 ap cp ep px q0 q1 q2 q3 : Pos}
    (lk : K.lookup f = some ⟨oc, od, .func (PySem.W.fnX name qual params [.Expr (.Call (.Attribute (.Call (.Name "super" p0) [] [] p1) "__init__" ap) [.Name x px] [] cp) ep, .Assign [.Attribute (.Name "self" q0) f1 q1] (.Name x q2) q3] scope [("__class__", cc)] .none kV doc pm an (.ref cda) ct), osl⟩)
    (hcd : PySem.W.codeIn K (.ref cda) qual = true) (S : NScope ["self", x, "__class__"] ["self", x] ["__class__"] scope)
    (T : SupAt P K cc D cda) (hms : mg "super" = none) (hks : scope.names.lookup ("super" : Str) = some .globalImplicit) (hp : ((params.posonlyargs ++ params.args).head?.map (·.arg)) = some "self")
    (hi : interactive (PySem.W.envX qual scope 0 f (.ref cda) [("__class__", cc)]) = false) (hx1 : (x == ("__debug__" : Str)) = false) (hx2 : (x == ("__classdict__" : Str)) = false) (hx3 : scope.names.lookup x = some .local) (hs3 : scope.names.lookup ("self" : Str) = some .local)
    (hps : ∀ env : Env, ∃ pl : Sem Bool, eval (.Call (.Attribute (.Call (.Name "super" p0) [] [] p1) "__init__" ap) [.Name x px] [] cp) env = (do
      let ov ← attributeBase (.Call (.Name "super" p0) [] [] p1) "__init__" env (eval (.Call (.Name "super" p0) [] [] p1) env)
      standAt ap.atName
      let (f, first) ← holding [ov] (getMethod ov "__init__" pl)
      callWith cp f first (backTo cp (starEach [.Name x px] env)) []))
    (SC : SupC K C D) (hno : PySem.W.findIn K (.ref C) f1 = some none) :
    FnOk P w K mg base CX (k + 1) f (PySem.W.fnX name qual params [.Expr (.Call (.Attribute (.Call (.Name "super" p0) [] [] p1) "__init__" ap) [.Name x px] [] cp) ep, .Assign [.Attribute (.Name "self" q0) f1 q1] (.Name x q2) q3] scope [("__class__", cc)] .none kV doc pm an (.ref cda) ct) ["self", x] (spI C 1 [f1]) := by
  cases har : (params.posonlyargs ++ params.args).head? with
  | none => rw [har] at hp; cases hp
  | some ar =>
    rw [har] at hp
    have hself : ar.arg = "self" := Option.some.inj hp
    refine super_fn lk hcd S (fun vs H Q E ⟨a, ws, e, hl, _⟩ => by rw [e, List.length_cons, hl]; rfl) T hms hks har (by rw [hself]; rfl) (fun _ => rfl) (fun _ => rfl) hps (fun L => hi) (fun _ => rfl) fun A outer s H vs Q E hr hsp => ?_
    obtain ⟨a, ws, rfl, hl, ea, q⟩ := hsp
    obtain ⟨v, rfl⟩ : ∃ v, ws = [v] := by
      match ws, hl with
      | [v], _ => exact ⟨v, rfl⟩
    refine ⟨a, C, tCons (tVar 1) tNil, tOst K f1 (tVar 0) (tVar 1), rfl, ea, SC, pa_cons (pe_var (i := 1) rfl (.inl hx3) hx1 hx2) pa_nil rfl, pss_one (ps_ost (pe_var (i := 0) rfl (.inl hs3) (by decide) (by decide)) (pe_var (i := 1) rfl (.inl hx3) hx1 hx2)), ?_⟩
    refine ⟨v, rfl, by simp, ea, v, rfl, .ref a, rfl, a, C, rfl, SC.oex, hno, .inl ⟨ea, fun d hd hda => ?_⟩⟩
    refine q d _ hd hda upd_same (by rw [upd_ne hda, upd_same]; rfl) fun b h1 h2 => by rw [upd_ne h1, upd_ne h2]
theorem init2_ok {x y f1 f2 : Str} {p0 p1 ap cp ep px py q0 q1 q2 q3 r0 r1 r2 r3 : Pos}
    (lk : K.lookup f = some ⟨oc, od, .func (PySem.W.fnX name qual params [.Expr (.Call (.Attribute (.Call (.Name "super" p0) [] [] p1) "__init__" ap) [.Name x px, .Name y py] [] cp) ep, .Assign [.Attribute (.Name "self" q0) f1 q1] (.Name x q2) q3, .Assign [.Attribute (.Name "self" r0) f2 r1] (.Name y r2) r3] scope [("__class__", cc)] .none kV doc pm an (.ref cda) ct), osl⟩)
    (hcd : PySem.W.codeIn K (.ref cda) qual = true) (S : NScope ["self", x, y, "__class__"] ["self", x, y] ["__class__"] scope)
    (T : SupAt P K cc D cda) (hms : mg "super" = none) (hks : scope.names.lookup ("super" : Str) = some .globalImplicit) (hp : ((params.posonlyargs ++ params.args).head?.map (·.arg)) = some "self")
    (hi : interactive (PySem.W.envX qual scope 0 f (.ref cda) [("__class__", cc)]) = false) (hx1 : (x == ("__debug__" : Str)) = false) (hx2 : (x == ("__classdict__" : Str)) = false) (hx3 : scope.names.lookup x = some .local) (hs3 : scope.names.lookup ("self" : Str) = some .local)
    (hy1 : (y == ("__debug__" : Str)) = false) (hy2 : (y == ("__classdict__" : Str)) = false) (hy3 : scope.names.lookup y = some .local)
    (hps : ∀ env : Env, ∃ pl : Sem Bool, eval (.Call (.Attribute (.Call (.Name "super" p0) [] [] p1) "__init__" ap) [.Name x px, .Name y py] [] cp) env = (do
      let ov ← attributeBase (.Call (.Name "super" p0) [] [] p1) "__init__" env (eval (.Call (.Name "super" p0) [] [] p1) env)
      standAt ap.atName
      let (f, first) ← holding [ov] (getMethod ov "__init__" pl)
      callWith cp f first (backTo cp (starEach [.Name x px, .Name y py] env)) []))
    (SC : SupC K C D) (hno : PySem.W.findIn K (.ref C) f1 = some none) (hno2 : PySem.W.findIn K (.ref C) f2 = some none) :
    FnOk P w K mg base CX (k + 1) f (PySem.W.fnX name qual params [.Expr (.Call (.Attribute (.Call (.Name "super" p0) [] [] p1) "__init__" ap) [.Name x px, .Name y py] [] cp) ep, .Assign [.Attribute (.Name "self" q0) f1 q1] (.Name x q2) q3, .Assign [.Attribute (.Name "self" r0) f2 r1] (.Name y r2) r3] scope [("__class__", cc)] .none kV doc pm an (.ref cda) ct) ["self", x, y] (spI C 2 [f1, f2]) := by
  cases har : (params.posonlyargs ++ params.args).head? with
  | none => rw [har] at hp; cases hp
  | some ar =>
    rw [har] at hp
    have hself : ar.arg = "self" := Option.some.inj hp
    refine super_fn lk hcd S (fun vs H Q E ⟨a, ws, e, hl, _⟩ => by rw [e, List.length_cons, hl]; rfl) T hms hks har (by rw [hself]; rfl) (fun _ => rfl) (fun _ => rfl) hps (fun L => hi) (fun _ => rfl) fun A outer s H vs Q E hr hsp => ?_
    obtain ⟨a, ws, rfl, hl, ea, q⟩ := hsp
    obtain ⟨v, v2, rfl⟩ : ∃ v v2, ws = [v, v2] := by
      match ws, hl with
      | [v, v2], _ => exact ⟨v, v2, rfl⟩
    refine ⟨a, C, tCons (tVar 1) (tCons (tVar 2) tNil), tSeq (tOst K f1 (tVar 0) (tVar 1)) (tOst K f2 (tVar 0) (tVar 2)), rfl, ea, SC, pa_cons (pe_var (i := 1) rfl (.inl hx3) hx1 hx2) (pa_cons (pe_var (i := 2) rfl (.inl hy3) hy1 hy2) pa_nil rfl) rfl,
      pss_cons (ps_ost (pe_var (i := 0) rfl (.inl hs3) (by decide) (by decide)) (pe_var (i := 1) rfl (.inl hx3) hx1 hx2)) (pss_one (ps_ost (pe_var (i := 0) rfl (.inl hs3) (by decide) (by decide)) (pe_var (i := 2) rfl (.inl hy3) hy1 hy2))), ?_⟩
    refine ⟨v, rfl, v2, rfl, by simp, ea, v, rfl, .ref a, rfl, a, C, rfl, SC.oex, hno, .inl ⟨ea, fun d hd hda => ?_⟩⟩
    refine ⟨v2, rfl, .ref a, rfl, a, C, rfl, SC.oex, hno2, .inr ⟨d, [(f1, v)], upd_same, by rw [upd_ne hda, upd_same], by simp, ?_⟩⟩
    refine q d _ hd hda (by rw [upd_ne (Ne.symm hda), upd_same]) (by rw [upd_same]; rfl) fun b h1 h2 => by rw [upd_ne h2, upd_ne h1, upd_ne h2]
end
end PV

namespace PV
open PySem PySem.Spec L2 NdefX PyProof.Rows

/-! ### raise C(e, ..) -/
theorem gr_new {F H : Hp} {a : Addr} {u : HO} (l : Le F H) (h : H a = none) : Gr F H (L2.upd F a u) (L2.upd H a u) :=
  ⟨Le.new _ (l.gone h), l.upd _ _, fun b o e => by rw [upd_ne (ne_of_none e h)]; exact e, fun b e => by
    by_cases z : b = a
    · subst z; exact .inr h
    · rw [upd_ne z] at e; exact .inl e⟩
/-- what the walk knows of the class numbered C: its name x, its __init__ -/
structure ExK (P : Program) (w : World) (K : PySem.W.Frag) (mg : Str → Option Value) (base : Heap) (c : Ctx) (k C n : Nat) (x : Str) (ps : List Str) : Prop where
  oex : OexC K (c.cls C)
  ini : ∃ fI fd, PySem.W.findIn K (.ref (c.cls C)) "__init__" = some (some (.ref fI)) ∧ PySem.W.typeIn K (.ref fI) = some (.type "function") ∧ FnOk P w K mg base (L2.CX P w) k fI fd ps (spI (c.cls C) n (c.lay C)) ∧ Binds K fd ps []
  mg : mg x = some (.ref (c.cls C))
def raiseR (C n : Nat) (rs : List Rs) : M Fl := fun π => match vals rs with
  | some ps => if ps.length = n ∧ n ≤ 1000 then .exc C ps π else .bad
  | none => .bad
def raiseF (C n : Nat) (fa : M (List Rs)) : M Fl := fun π => (fa π).bind (raiseR C n)
theorem s_raise {X : Cx} {c : Ctx} {w : Ws} {k C n : Nat} {x : Str} {ps : List Str} {e : Expr} {es : List Expr} {p pos pos2 : Pos} {fa : M (List Rs)} (hc : X.calm = true) (tk : Takes X w.W) (E : ExK X.prog X.w X.K X.mg X.base c k C n x ps) (hr : Room (k + 1) X.A) (hg : Gl X x)
    (ha : PA X (e :: es) (tR c w fa)) (hdb : (x == ("__debug__" : Str)) = false := by decide) (he : starEach (e :: es) X.env = (false, eval e X.env) :: starEach es X.env := by rfl) (hpl : (backTo pos (starEach es X.env)).any (·.1) = false := by rfl) :
    PS X (.Raise (some (.Call (.Name x p) (e :: es) [] pos)) none pos2) (tS c w (raiseF C n fa)) := by
  obtain ⟨fI, fd, iC, tI, F1, hb⟩ := E.ini
  refine ps_weak (ps_raise hc tk (pmk_oex E.oex iC tI F1 hr hb .nil passL hg E.mg ha hdb he hpl)) fun D σ H ⟨F, π, gg, s, po⟩ => ?_
  refine ⟨F, π, gg, s, ?_⟩
  unfold raiseF at po
  cases e0 : fa π with
  | bad => rw [e0] at po; exact po
  | exc C' qs π1 => rw [e0] at po; exact fun F' H' d t s => po F' σ H' d t s
  | ok rs π1 =>
    rw [e0] at po
    intro F1 H1 t1 s1 vs hv
    simp only [Out.bind, raiseR] at po
    cases e1 : vals rs with
    | none => rw [e1] at po; exact po.elim
    | some qs =>
      rw [e1] at po
      by_cases hn : qs.length = n ∧ n ≤ 1000
      case neg => simp only [if_neg hn] at po; exact po.elim
      simp only [if_pos hn] at po
      have rv := vals_rps hv e1
      have hl := rps_len rv
      refine ⟨by omega, fun a ha => ⟨a, vs ++ [], rfl, by rw [List.append_nil]; omega, upd_same, fun d H2 hd hda e2 e3 e4 => ⟨rfl, d, _, e2, e3, by rw [upd_ne hda] at hd; exact hd, ?_⟩⟩⟩
      rw [upd_ne hda] at hd
      rw [List.append_nil] at e3 ⊢
      have eu : upd (del H2 a) d (.xd ((c.lay C).zip vs).reverse) = upd H1 d (.xd ((c.lay C).zip vs).reverse) := by
        funext b
        by_cases z : b = d
        · subst z; rw [upd_same, upd_same]
        · rw [upd_ne z, upd_ne z]
          by_cases y : b = a
          · subst y; rw [del_same, ha]
          · rw [del_ne y, e4 b y z, upd_ne y]
      rw [eu]
      have gr : Gr F1 H1 (upd F1 d (.xd ((c.lay C).zip vs).reverse)) (upd H1 d (.xd ((c.lay C).zip vs).reverse)) := gr_new s1.le hd
      exact po _ σ _ (some d) (t1.trans gr.tr) (gr.sr s1) (.inr ⟨d, vs, rfl, upd_same, Rps.mono gr.le _ _ rv⟩)

/-! ### try: .. except C as e: .. -/
/-- the guard within the suite: slot i holds the exception at a -/
def wx (c : Ctx) (w : Ws) (i : Nat) (a : Addr) (d : Option Addr) (C : Nat) (ps : List P) : Wi := ⟨fun _ _ _ _ => False, fun σ F => w.g F ∧ σ[i]? = some (some (.ref a)) ∧ XdOk c F C ps d, fun {σ} F F' l h => ⟨w.mono _ _ l h.1, h.2.1, by
  rcases h.2.2 with h | ⟨b, vs, e1, e2, e3⟩
  · exact .inl h
  · exact .inr ⟨b, vs, e1, l.xd e2, Rps.mono l _ _ e3⟩⟩⟩
/-- a suite's first statement -/
def tX (c : Ctx) (w' : Wi) (w : Ws) (f : M Fl) : TS := fun D σ H => ∃ F π, w'.g σ F ∧ w.g F ∧ SR c F π σ H ∧ PoS c (fun _ _ _ _ => False) F π σ H (f π) (flK c D π σ H)
def notL (π : En) (i : Nat) : Bool := match π[i]? with
  | none => false
  | some (.loan _) => false
  | some _ => true
def hndR (i : Nat) (o : Out Fl) : Out Fl := match o with
  | .ok fl π2 => if notL π2 i = true then .ok fl (π2.set i .no) else .bad
  | _ => .bad
def tryF (sb : Nat → Nat → Bool) (m i C : Nat) (fb : M Fl) (fh : Nat → List P → M Fl) : M Fl := fun π => match fb π with
  | .exc C' ps π1 => if C' < m then (if sb C' C = true then (if notL π1 i = true then hndR i (fh C' ps (π1.set i .no)) else .bad) else .exc C' ps π1) else .bad
  | o => o
theorem notL_at {π : En} {i : Nat} (h : notL π i = true) : i < π.length ∧ ∀ o, π[i]? ≠ some (.loan o) := by
  unfold notL at h
  cases q : π[i]? with
  | none => rw [q] at h; cases h
  | some sl =>
    refine ⟨(List.getElem?_eq_some_iff.mp q).1, fun o e => ?_⟩
    cases e
    rw [q] at h; cases h
theorem SR.noset {c : Ctx} {F H : Hp} {π : En} {σ : L2.St} {i : Nat} (s : SR c F π σ H) (h : notL π i = true) (x : Option V) : SR c F (π.set i .no) (σ.set i x) H ∧ ∀ F0 π0 σ0 H0, Tr F0 π0 σ0 H0 F π σ H → Tr F0 π0 σ0 H0 F (π.set i .no) (σ.set i x) H := by
  obtain ⟨h1, h2⟩ := notL_at h
  obtain ⟨s2, t2⟩ := s.set h1 h2 .no x (fun p e => by cases e) (fun o e => by cases e) (fun o e => by cases e)
  exact ⟨s2, fun F0 π0 σ0 H0 t => t2 _ _ _ _ t fun a e ⟨o, h⟩ => by cases h⟩
section
variable {X : Cx} {c : Ctx} {w : Ws} {x n : Str} {i C m : Nat} {body suite : List Stmt} {b₀ : Stmt} {np pos pos' : Pos} {sb : Nat → Nat → Bool} {fb : M Fl} {fh : Nat → List P → M Fl}
theorem s_tryAs (hs : X.stack = X.env :: X.outer) (hf : X.env.frame = some X.env.locals) (hN : X.N.Nodup) (hi : X.N[i]? = some n) (hln : X.env.kindOf n = some .local) (hcn : Names X x (.ref (c.cls C))) (tk : Takes X w.W)
    (hex : ∀ C', C' < m → PySem.W.exmOne X.K (.ref (c.cls C')) (.ref (c.cls C)) = some (sb C' C))
    (hb : ∀ (W : WX) (pn : List (Addr × Obj)) (xe : Value → Shared → Prop), Takes (X.tr pn xe) W → PassesOwn (model X.prog X.w) X.A X.env xe → PSs (X.tr pn xe) body (tS c ⟨W, w.g, w.mono⟩ fb))
    (hsu : ∀ (C' : Nat) (ps : List P) (a : Addr) (oe : Obj) (d : Option Addr) (pn : List (Addr × Obj)), C' < m → sb C' C = true → Zc (.ref (c.cls C')) d oe → (∃ vs, oe.data = .fields vs) → PSs (X.suite a ((a, oe) :: pn)) (b₀ :: suite) (tX c (wx c w i a d C' ps) w (fh C' ps))) :
    PS X (.Try body [.ExceptHandler (some (.Name x np)) (some n) (b₀ :: suite) pos'] [] [] pos) (tS c w (tryF sb m i C fb fh)) := by
  refine ps_weak (ps_try_as (i := i) (tb := fun W => tS c ⟨W, w.g, w.mono⟩ fb)
    (ts := fun a cls d D σ H => ∃ C' ps, C' < m ∧ sb C' C = true ∧ cls = .ref (c.cls C') ∧ tX c (wx c w i a d C' ps) w (fh C' ps) D σ H) (Wout := w.W) hs hf hN hi hln hcn tk hb fun a oe cls d pn hz hv => ⟨fun pins s σ H D I ⟨C', ps, h1, h2, h3, h4⟩ => ?_⟩) fun D σ H ⟨F, π, gg, s, po⟩ => ?_
  · subst h3
    exact (hsu C' ps a oe d pn h1 h2 hz hv).run pins s σ H D I h4
  · refine ⟨F, π, gg, s, ?_⟩
    unfold tryF at po
    cases e0 : fb π with
    | bad => rw [e0] at po; exact po
    | ok fl π1 => rw [e0] at po; exact po
    | exc C' ps π1 =>
      rw [e0] at po
      intro F' σ' H' d t s' xd
      by_cases hm : C' < m
      case neg => simp only [if_neg hm] at po; exact po.elim
      simp only [if_pos hm] at po
      refine ⟨sb C' C, hex C' hm, fun hb a ha => ⟨C', ps, hm, hb, rfl, ?_⟩, fun hb => ?_⟩
      · simp only [if_pos hb] at po
        by_cases hl : notL π1 i = true
        case neg => simp only [if_neg hl] at po; exact po.elim
        simp only [if_pos hl] at po
        obtain ⟨s1, t1⟩ := s'.noset hl (some (.ref a))
        have T1 := t1 _ _ _ _ t
        have hσ : i < σ'.length := by rw [← s'.len]; exact (notL_at hl).1
        refine ⟨F', π1.set i .no, ⟨w.mono _ _ t.le gg, by rw [List.getElem?_set_self hσ], xd⟩, w.mono _ _ t.le gg, s1, ?_⟩
        cases e2 : fh C' ps (π1.set i .no) with
        | bad => rw [e2] at po; exact po
        | exc C2 qs π2 => rw [e2] at po; exact po.elim
        | ok fl π2 =>
          rw [e2] at po
          unfold hndR at po
          by_cases hl2 : notL π2 i = true
          case neg => simp only [if_neg hl2] at po; exact po.elim
          simp only [if_pos hl2] at po
          intro F2 σ2 H2 t2 s2
          obtain ⟨s3, t3⟩ := s2.noset hl2 none
          have K := po F2 _ H2 (t3 _ _ _ _ (T1.trans t2)) s3
          cases fl with
          | nx => exact K
          | bk => exact K
          | ct => exact K
          | rt r =>
            intro v hv
            refine K v ?_
            cases r with
            | val p => exact hv
            | own o =>
              obtain ⟨a2, e1, h1, h2, h3, h4⟩ := hv
              refine ⟨a2, e1, h1, fun ⟨j, o', q1, q2⟩ => h2 ?_, h3, ?_⟩
              · by_cases z : j = i
                · subst z
                  rw [List.getElem?_set_self (notL_at hl2).1] at q1
                  cases q1
                · rw [List.getElem?_set_ne (Ne.symm z)] at q1 q2
                  exact ⟨j, o', q1, q2⟩
              · exact Fr0.back T1 h4
      · simp only [hb, Bool.false_eq_true, if_false] at po
        exact po F' σ' H' d t s' xd
end
/-! .. in the suite -/
/-- e.f -/
def xfF (ps : List P) (k : Nat) : M Rs := fun π => match ps[k]? with
  | some p => .ok (.val p) π
  | none => .bad
section
variable {X : Cx} {c : Ctx} {w : Ws} {a : Addr} {oe : Obj} {d : Option Addr} {pn : List (Addr × Obj)} {x n : Str} {i k C : Nat} {ps : List P} {pos pos2 : Pos}
theorem p_xf (T : XfC X.K (c.cls C)) (hno : PySem.W.findIn X.K (.ref (c.cls C)) n = some none) (hz : Zc (.ref (c.cls C)) d oe) (hf : ∃ vs, oe.data = .fields vs) (hN : X.N[i]? = some x) (hv : Vis X.env.scope x)
    (hlay : ∀ vs : List V, ps.length = vs.length → ((c.lay C).zip vs).reverse.lookup n = vs[k]?) (hne : c.lay C ≠ [])
    (hd : (x == ("__debug__" : Str)) = false := by decide) (hcd : (x == ("__classdict__" : Str)) = false := by decide)
    (hb : attributeBase (.Name x pos2) n X.env (eval (.Name x pos2) X.env) = eval (.Name x pos2) X.env := by rfl) :
    PE (X.suite a ((a, oe) :: pn)) (.Attribute (.Name x pos2) n pos) (tE c (wx c w i a d C ps) (xfF ps k)) :=
  pe_weak (pe_xf T hno hz hf (pe_var (X := X.suite a ((a, oe) :: pn)) (i := i) hN hv hd hcd) hb) fun σ H Q ⟨F, π, ⟨g0, g1, g2⟩, s, po⟩ => by
    unfold xfF at po
    refine ⟨.ref a, g1, rfl, rfl, ?_⟩
    rcases g2 with ⟨e, _⟩ | ⟨b, vs, e1, e2, e3⟩
    · exact absurd e hne
    · cases e4 : ps[k]? with
      | none => rw [e4] at po; exact po.elim
      | some p =>
        rw [e4] at po
        obtain ⟨v, e5, r⟩ := rps_get e3 e4
        exact ⟨b, _, v, e1, s.le.xd e2, by rw [hlay vs (rps_len e3)]; exact e5, po F H .refl s v r⟩
end
/-! first statements of a suite -/
section
variable {X : Cx} {c : Ctx} {w' : Wi} {w : Ws} {st : Stmt} {rest body orelse : List Stmt} {e cnd : Expr} {pos pos' : Pos} {f g : M Fl} {fe : M Rs} {ft : M Bool}
theorem x_cons (h1 : PS X st (tX c w' w f)) (h2 : PSs X rest (tS c w.blk g)) : PSs X (st :: rest) (tX c w' w (seqF f g)) := pss_weak (pss_cons h1 h2) fun D σ H ⟨F, π, gx, gg, s, po⟩ => by
  refine ⟨F, π, gx, gg, s, (PoS.splitS po).mono fun fl π1 F1 σ1 H1 t s1 p1 => ?_⟩
  cases fl with
  | nx => exact ⟨F1, π1, w.mono _ _ t.le gg, s1, p1.mono fun fl π2 F2 σ2 H2 t2 s2 k => k.base t⟩
  | bk => exact p1 F1 σ1 H1 .refl s1
  | ct => exact p1 F1 σ1 H1 .refl s1
  | rt r => exact p1 F1 σ1 H1 .refl s1
theorem x_one (h1 : PS X st (tX c w' w f)) : PSs X [st] (tX c w' w f) := pss_weak (pss_one h1) fun D σ H h => h
/-- a statement that does not look at the exception -/
theorem x_any (h1 : PS X st (tS c w.blk f)) : PS X st (tX c w' w f) := ps_weak h1 fun D σ H ⟨F, π, gx, gg, s, po⟩ => ⟨F, π, gg, s, po⟩
theorem x_if (hW : w'.W = fun _ _ _ _ => False) (hc : PT X cnd (tT c w' ft)) (ha : PSs X body (tS c w.blk f)) (hb : PSs X orelse (tS c w.blk g)) : PS X (.If cnd body orelse pos) (tX c w' w (ifF ft f g)) :=
  ps_weak (ps_if hc ha hb) fun D σ H ⟨F, π, gx, gg, s, po⟩ => by
    refine ⟨F, π, gx, s, ?_⟩
    rw [hW]
    refine (PoS.split po).mono fun b π1 F1 H1 t s1 p1 => ?_
    cases b with
    | true => exact ⟨F1, π1, w.mono _ _ t.le gg, s1, PoS.mono p1 fun fl π2 F2 σ2 H2 t2 s2 k => k.base t⟩
    | false => exact ⟨F1, π1, w.mono _ _ t.le gg, s1, PoS.mono p1 fun fl π2 F2 σ2 H2 t2 s2 k => k.base t⟩
theorem x_ret (hW : w'.W = fun _ _ _ _ => False) (he : PE X e (tE c w' fe)) : PS X (.Return (some e) pos) (tX c w' w (retF fe)) := ps_weak (ps_ret he) fun D σ H ⟨F, π, gx, gg, s, po⟩ => by
  refine ⟨F, π, gx, s, ?_⟩
  rw [hW]
  unfold retF at po
  cases e0 : fe π with
  | bad => rw [e0] at po; exact po
  | exc C ps π1 => rw [e0] at po; exact fun F' H' d t s => po F' σ H' d t s
  | ok r π1 =>
    rw [e0] at po
    intro F1 H1 t s1 v hr
    cases r with
    | val p => exact po F1 σ H1 t s1 v hr
    | own o =>
      obtain ⟨a, e1, h1, h2, h3, h4⟩ := hr
      exact po F1 σ H1 t s1 v ⟨a, e1, h1, fun z => h2 z.own, h3, h4⟩
    | bor i =>
      have hr' : σ[i]? = some (some v) := hr
      simp only [Out.bind, retR] at po
      cases q : π1[i]? with
      | none => rw [q] at po; exact po.elim
      | some sl =>
        rw [q] at po
        cases sl with
        | no => exact po.elim
        | loan o => exact po.elim
        | val p =>
          obtain ⟨v', e1, h1⟩ := s1.vl i p q
          rw [hr'] at e1
          have e3 : v = v' := Option.some.inj (Option.some.inj e1)
          subst e3
          exact po F1 σ H1 t s1 v h1
        | own o =>
          obtain ⟨a, e1, h1, h2⟩ := s1.ow i _ o q rfl
          rw [hr'] at e1
          have e3 : v = .ref a := Option.some.inj (Option.some.inj e1)
          subst e3
          exact po F1 σ H1 t s1 _ ⟨a, rfl, h1, lent_own s1 q hr', h2, Fr0.back t (.inr ⟨i, _, o, q, rfl, hr'⟩)⟩
end
end PV

namespace PV
open PySem PySem.Spec L2 PyProof.Rows

/-! ### defs that are called where no text is under way -/
structure FnG (P : Program) (w : World) (K : PySem.W.Frag) (mg : Str → Option Value) (base : Heap) (k : Nat) (f : Addr) (fd : FuncData) (ps : List Str) (sp : Sp) : Prop where
  len : ∀ vs H Q E, sp vs H Q E → vs.length = ps.length
  run : ∀ (A : Around) (outer : List Env) (s : Shared) (H : Hp) (args : Args) (us : List Value) (vs : List V) (Q : VK) (E : XK), A.guards = some [] → Room k A → Env0 P w K mg base A outer s H → BindsTo s fd args (ps.zip us) → Vals vs us → sp vs H Q E →
    codeAny (model P w) A (.call (.ref f) args) (CR (L2.CX P w) outer P w H s Q E) s
theorem FnG.mono {P : Program} {w : World} {K : PySem.W.Frag} {mg : Str → Option Value} {base : Heap} {j k : Nat} {f : Addr} {fd : FuncData} {ps : List Str} {sp : Sp} (F : FnG P w K mg base j f fd ps sp) (h : j ≤ k) : FnG P w K mg base k f fd ps sp :=
  ⟨F.len, fun A outer s H args us vs Q E hg hr => F.run A outer s H args us vs Q E hg (hr.mono h)⟩
section
variable {P : Program} {w : World} {K : PySem.W.Frag} {mg : Str → Option Value} {base : Heap} {c : Ctx}
/-- a def by its body -/
theorem fnG_of {x qual : Str} {st : Stmt} {f : Addr} {fd : FuncData} {N ps : List Str} {k : Nat} {sp : Sp} (F : Fun K x qual st f fd) (S : FnScope N ps (defScope st)) (len : ∀ vs H Q E, sp vs H Q E → vs.length = ps.length)
    (hbody : ∀ (cdv : Value) (A : Around) (outer : List Env) (s : Shared) (H : Hp) (vs : List V) (Q : VK) (E : XK), A.guards = some [] → Room k (A.deeper (envOfC qual (defScope st) s.heap.objs.size f cdv)) → sp vs H Q E →
      ∃ t, PSs (cxOf (L2.CX P w) P w K mg base N qual (defScope st) f cdv A outer s H E) (defBody st) t ∧ t { nx := fun _ H' => Q .non H', rt := Q } (start N vs) H) : FnG P w K mg base (k + 1) f fd ps sp := by
  obtain ⟨oc, od, kV, doc, pm, an, cdv, ct, osl, rfl, lk, hcd⟩ := F.ex
  refine ⟨len, fun A outer s H args us vs Q E hg hr e0 hb r hsp => ?_⟩
  have inS : ∀ {b : Addr} {o : Obj}, base.get? b = some o → s.heap.get? b = some o := fun {b o} e => (e0.bs b o e).1
  have KX : K.In s.heap := e0.mod.kin.keeps fun b o e => inS e
  have hkind : ∀ y ∈ ps.zip us, (defScope st).names.lookup y.1 = some .local ∨ ((defScope st).names.lookup y.1 = some .cell ∧ ((cellsFrom (s.heap.objs.size + 1) (defScope st).names []).lookup y.1).isSome = true) := fun y hy => by
    rcases S.par y.1 (List.of_mem_zip (show (y.1, y.2) ∈ _ from hy)).1 with q | q
    · exact .inl q
    · exact .inr ⟨q, PySem.W.cellsFrom_some _ _ _ (.inl q)⟩
  refine codeAny_call_function hr.depth (KX _ _ lk) rfl S.co S.gen rfl (PySem.W.codeRec_of KX hcd) (hb _ _ _ _ (wpAny_newFunctionEnv_cells S.kind hkind fun env he s1 x => ?_))
  subst he
  refine ⟨(e0.mod.nolimit.keeps fun b o e => inS e).keeps x.toInCall.keep, codeAny_func ?_⟩
  obtain ⟨t, ht, hq⟩ := hbody cdv A outer s H vs Q E hg (hr.deeper _) hsp
  refine wpAny_mono (ht.run [] s1 (start N vs) H _ (inv_start S hr.hd e0 (len _ _ _ _ hsp) r x) hq) (fun fl s' hs => ?_) fun e s' hs => hs
  cases fl with
  | ret u =>
    obtain ⟨v, σ', H', J, rv, q⟩ := hs
    exact ⟨v, H', J.os, J.bare, J.base, J.hok, rv, q⟩
  | next =>
    obtain ⟨σ', H', J, q⟩ := hs
    exact ⟨.non, H', J.os, J.bare, J.base, J.hok, rfl, q⟩
  | brk => obtain ⟨_, _, _, q⟩ := hs; exact q.elim
  | cont => obtain ⟨_, _, _, q⟩ := hs; exact q.elim
theorem fn_okG {x qual : Str} {st : Stmt} {f : Addr} {fd : FuncData} {N ps : List Str} {k : Nat} {body : M Fl} (Fd : Fun K x qual st f fd) (S : FnScope N ps (defScope st))
    (hb : ∀ (cdv : Value) (A : Around) (outer : List Env) (s : Shared) (H : Hp) (E : XK), A.guards = some [] → Room k (A.deeper (envOfC qual (defScope st) s.heap.objs.size f cdv)) →
      PSs (cxOf (L2.CX P w) P w K mg base N qual (defScope st) f cdv A outer s H E) (defBody st) (tS c (wE E) body)) :
    FnG P w K mg base (k + 1) f fd ps (spF c ps.length (fnF (N.length - ps.length) body)) := by
  refine fnG_of Fd S (fun vs H Q E h => ?_) (fun cdv A outer s H vs Q E hg hr h => ⟨_, hb cdv A outer s H E hg hr, ?_⟩)
  · obtain ⟨F, πs, hl, _, sr, _⟩ := h
    have := sr.len
    simp at this
    omega
  · obtain ⟨F, πs, hl, hno, sr, po⟩ := h
    have hvl : vs.length = ps.length := by
      have := sr.len
      simp at this
      omega
    have hst : L2.start N vs = vs.map some ++ List.replicate (N.length - ps.length) none := by unfold L2.start; rw [hvl]
    rw [hst]
    refine ⟨F, πs ++ List.replicate (N.length - ps.length) .no, trivial, sr.ext _, ?_⟩
    unfold fnF at po
    cases e : body (πs ++ List.replicate (N.length - ps.length) .no) with
    | bad => rw [e] at po; exact po
    | exc C qs π' =>
      rw [e] at po
      intro F' σ' H' d t s' xd
      obtain ⟨h1, h2, _⟩ := back_ok hno sr t s'
      exact po F' H' d h1 h2 xd
    | ok fl π' =>
      rw [e] at po
      cases fl with
      | bk => exact po.elim
      | ct => exact po.elim
      | nx =>
        intro F' σ' H' t s'
        obtain ⟨h1, h2, _⟩ := back_ok hno sr t s'
        exact po .non F' H' h1 h2 (show Rp c F' .non .non from mk_non)
      | rt r =>
        intro F' σ' H' t s' v hr'
        obtain ⟨h1, h2, h3⟩ := back_ok hno sr t s'
        refine po v F' H' h1 h2 ?_
        cases r with
        | val p => exact hr'
        | own o =>
          obtain ⟨a, e1, q1, q2, q3, q4⟩ := hr'
          exact ⟨a, e1, q1, fun z => q2 (h3 a z), q3, q4.imp id own_ext.mp⟩
/-- no Fn from a run that only the promise of another def needs: a def's run needs no more than it says -/
theorem FnG.of {k : Nat} {f : Addr} {fd : FuncData} {ps : List Str} {sp : Sp} (F : FnOk P w K mg base (L2.CX P w) k f fd ps sp) : FnG P w K mg base k f fd ps sp :=
  ⟨F.len, fun A outer s H args us vs Q E _ => F.run A outer s H args us vs Q E⟩
end
section
variable {X : Cx} {c : Ctx} {w : Wi} {k n : Nat} {f : Addr} {fd : FuncData} {ps : List Str} {Fn : FN} {x m : Str} {p pos apos : Pos} {e o : Expr} {es : List Expr} {fa : M (List Rs)} {sp : Sp} {E : L2.St → XK} {t : TA}
theorem run_fnG {pins : List (Addr × Obj)} {σ : L2.St} {H : Hp} {s : Shared} {Q : VK} {us : List Value} {vs : List V} (G : FnG X.prog X.w X.K X.mg X.base k f fd ps sp) (hg : X.A.guards = some []) (hr : Room k X.A) (hb : Binds X.K fd ps []) (hx : PassesAt (L2.CX X.prog X.w) X σ (E σ))
    (I : L2.Inv X pins σ H s) (r : Vals vs us) (h : sp vs H Q (E σ)) : wpAny (model X.prog X.w) X.A (call (.ref f) us) (L2.EP X pins σ Q) X.xe s := by
  have b := hb s us I.kIn (by rw [List.append_nil, ← r.length]; exact G.len _ _ _ _ h)
  rw [List.append_nil] at b
  refine wpAny_call (codeAny_mono (G.run X.A X.stack s H ⟨us, []⟩ us vs Q (E σ) hg hr I.env0 b r h) fun r s' hq => ?_)
  cases r with
  | error e => exact hx pins H s e s' I hq
  | ok fl => cases fl <;> first | exact I.after hq | exact False.elim hq
theorem pe_callG (G : FnG X.prog X.w X.K X.mg X.base k f fd ps sp) (hgd : X.A.guards = some []) (hr : Room k X.A) (hg : Gl X x) (hm : X.mg x = some (.ref f)) (hk : PySem.W.keepIn X.K (.ref f) = true) (hb : Binds X.K fd ps []) (hx : ∀ σ, PassesAt (L2.CX X.prog X.w) X σ (E σ))
    (ha : PA X (e :: es) t) (hdb : (x == ("__debug__" : Str)) = false := by decide) (he : starEach (e :: es) X.env = (false, eval e X.env) :: starEach es X.env := by rfl) (hpl : (backTo pos (starEach es X.env)).any (·.1) = false := by rfl) :
    PE X (.Call (.Name x p) (e :: es) [] pos) (tCallS sp E t) :=
  ⟨fun pins s σ H Q I h => wpAny_Call_Name_kw (ld_glob I hg hm (PySem.W.callWith_K (h₀ := X.base) I.ok.mod.kin hk (thn (ha.run pos pins s σ H _ I h) fun us s1 ⟨vs, H1, I1, r, q⟩ => ⟨I1.kIn, run_fnG G hgd hr hb (hx σ) I1 r q⟩) he hpl) hdb)⟩
/-- f(e, ..) -/
theorem p_callG (G : FnG X.prog X.w X.K X.mg X.base k f fd ps (spF c n Fn)) (hgd : X.A.guards = some []) (hr : Room k X.A) (hg : Gl X x) (hm : X.mg x = some (.ref f)) (hk : PySem.W.keepIn X.K (.ref f) = true) (hb : Binds X.K fd ps []) (tk : Takes X w.W)
    (ha : PA X (e :: es) (tR c w fa)) (hlen : ∀ π rs π', fa π = .ok rs π' → rs.length = n) (hdb : (x == ("__debug__" : Str)) = false := by decide) (he : starEach (e :: es) X.env = (false, eval e X.env) :: starEach es X.env := by rfl) (hpl : (backTo pos (starEach es X.env)).any (·.1) = false := by rfl) :
    PE X (.Call (.Name x p) (e :: es) [] pos) (tE c w (callF Fn fa)) :=
  pe_weak (pe_callG G hgd hr hg hm hk hb (fun σ => passAt tk σ) ha hdb he hpl) fun σ H Q ⟨F, π, gg, s, po⟩ => by
    refine ⟨F, π, gg, s, ?_⟩
    unfold callF at po
    cases e0 : fa π with
    | bad => rw [e0] at po; exact po
    | exc C qs π1 => rw [e0] at po; exact po
    | ok rs π1 =>
      rw [e0] at po
      intro F1 H1 t s1 vs hx
      refine call_post s1 hx (hlen _ _ _ e0) (Po.from po t) fun r π2 F2 H2 v t2 kk hr2 => kk v (hr2.base t)
theorem len_nil : ∀ π rs π', nilF π = .ok rs π' → rs.length = 0 := fun π rs π' h => by cases h; rfl
theorem len_cons {f : M Rs} {g : M (List Rs)} {n : Nat} (h : ∀ π rs π', g π = .ok rs π' → rs.length = n) : ∀ π rs π', consF f g π = .ok rs π' → rs.length = n + 1 := fun π rs π' e => by
  unfold consF at e
  cases e0 : f π with
  | bad => rw [e0] at e; cases e
  | exc C qs π1 => rw [e0] at e; cases e
  | ok r π1 =>
    rw [e0] at e
    simp only [Out.bind] at e
    cases e1 : g π1 with
    | bad => rw [e1] at e; cases e
    | exc C qs π1 => rw [e1] at e; cases e
    | ok rs2 π2 =>
      rw [e1] at e
      cases e
      rw [List.length_cons, h _ _ _ e1]
end

/-! ### repr -/
def rReprD (K : PySem.W.Frag) : List V → Hp → VK → Prop := fun xs H Q => ∃ (v : V) (d : PyData), xs = [v] ∧ Dp K H v d ∧ d.showable = true ∧ d.hasDict = false ∧ d.depth ≤ 60 ∧ d.shown.length ≤ sizeLine ∧ Q (.str d.shown) H
theorem call_reprD {X : Cx} (hgd : X.A.guards = some []) (hu : X.A.units + 65 < cLine) : CallR X (.builtin "repr") (rReprD X.K) := by
  intro pins s σ H xs us Q I r h
  obtain ⟨v, d, rfl, D, hs, hn, hd, hz, q⟩ := h
  obtain ⟨u, rfl, r1⟩ := vals1 r
  obtain ⟨as, R⟩ := D.reads I _ _ _ r1
  have give : ∀ h' u tk, (∀ b o, s.heap.get? b = some o → h'.get? b = some o) → L2.EP X pins σ Q (.str d.shown u) { s with heap := h', toks := tk } := fun h' u tk k => ⟨.str d.shown, H, I.kept (t' := tk) k, ⟨_, rfl⟩, q⟩
  have keep0 : ∀ b o, s.heap.get? b = some o → s.heap.get? b = some o := fun _ _ e => e
  cases D with
  | non =>
    cases r1
    exact PySem.P.repr_of_none (by have := give s.heap s.toks (s.toks + 1) keep0; rw [PyData.shown_none] at this; exact this)
  | bl b =>
    cases r1
    exact PySem.P.repr_of_bool (by have := give s.heap s.toks (s.toks + 1) keep0; simpa only [PyData.shown] using this)
  | int i =>
    obtain ⟨t, rfl⟩ := r1
    exact PySem.P.repr_of_int (by simpa [PyData.showable] using hs) (by have := give s.heap s.toks (s.toks + 1) keep0; simpa only [PyData.shown] using this)
  | str x =>
    obtain ⟨t, rfl⟩ := r1
    exact PySem.P.repr_of_str (by have := give s.heap s.toks (s.toks + 1) keep0; simpa only [PyData.shown] using this) (by simpa only [PyData.shown] using hz)
  | lst h1 h2 =>
    cases r1
    exact repr_of_reads' R hs (PyData.noDict_hsm hn) hgd (by omega) keep0 give hz
  | tup h1 h2 =>
    cases r1
    exact repr_of_reads' R hs (PyData.noDict_hsm hn) hgd (by omega) keep0 give hz
/-- small data: ints small, texts short, few parts -/
def shw : Nat → P → Bool
  | _, .non => true
  | _, .bl _ => true
  | _, .int i => decide (i.natAbs < 2 ^ 64)
  | _, .str x => decide ((reprText x).length ≤ 1000)
  | n + 1, .tup xs => decide (xs.length ≤ 20) && xs.all (shw n)
  | n + 1, .lst xs => decide (xs.length ≤ 20) && xs.all (shw n)
  | _, _ => false
end PV

namespace PV
open PySem PySem.Spec L2 PyProof.Rows

/-! ### repr, as an operation -/
def reprP : List P → Option Rv
  | [p] => if dat 60 p = true ∧ (toD p).showable = true ∧ (toD p).hasDict = false ∧ (toD p).shown.length ≤ 1000000 then some (.val (.str (toD p).shown)) else none
  | _ => none
theorem v_repr {c : Ctx} : CalV c (rReprD c.K) reprP := by
  intro F H ps xs res Q l h e k
  have hs := sizeLine_eq
  unfold reprP at e
  split at e
  · rename_i p
    split at e
    · rename_i hc
      cases e
      obtain ⟨v, t, rfl, h1, h2⟩ := h
      have ht : t = [] := h2
      subst ht
      exact ⟨v, toD p, rfl, dp_of 60 p v hc.1 (h1.rpH l), hc.2.1, hc.2.2.1, (dat_lay 60 p hc.1).2, by omega, give l k mk_str⟩
    · cases e
  · cases e

/-! ### the law's own head -/
section
open PySem.W
variable {P : Program} {w : World} {K : Frag} {mg mb : Str → Option Value} {k : Nat} {fa a : Addr} {fd : FuncData} {x : Str} {sp : Sp} {s₁ : Shared} {vs : List Value} {ns : List Int}
/-- from a heap H of which no more is tracked than the script -/
theorem lawG_at {H : Hp} (KX : K.In s₁.heap) (hns : s₁.heap.Ns mainGlobals mg) (hb : s₁.heap.Ns builtinsNs mb) (hbb : ∀ x : Str, x ≠ "__name__" → mb x = bootBuiltins x) (hlim : s₁.heap.NoLimit) (hg : s₁.gens = #[])
    (ha : s₁.heap.get? a = some { cls := .type "list", data := .seq vs.toArray }) (hr : Room k callerA)
    (hF : ∀ base : Heap, K.In base → base.Ns mainGlobals mg → FnG P w K mg base k fa fd [x] sp) (hbind : ∀ (s : Shared) (u : Value), BindsTo s fd ⟨[u], []⟩ [(x, u)])
    (hO : Only H) (hok : HOk P w H s₁.heap) (hA : ∀ b, H b ≠ none → b = a) (hK : H a ≠ none → K.lookup a = none) (hsp : sp [.ref a] H (fun v _ => v = .bl true) fun _ _ _ => False) :
    codeAny (model P w) callerA (.call (.ref fa) ⟨[.ref a], []⟩) (fun r s' => r = .ok (.ret (.bool true)) ∧ OldK s₁.heap s'.heap ∧ s'.os = s₁.os ∧ AllBare s'.gens) s₁ := by
  have un : ∀ {b : Addr} {o : Obj}, s₁.heap.get? b = some o → (b = a → o ≠ { cls := .type "list", data := .seq vs.toArray } ∨ H a = none) → H b = none := fun {b o} e hne => by
    cases q : H b with
    | none => rfl
    | some u =>
      obtain rfl := hA b (by rw [q]; exact fun z => nomatch z)
      rcases hne rfl with z | z
      · rw [ha] at e
        exact absurd (Option.some.inj e).symm z
      · rw [q] at z; cases z
  have nsK : ∀ {b : Addr} {m : Str → Option Value}, s₁.heap.Ns b m → (hidT s₁.heap H).Ns b m := fun {b m} ⟨o, es, ep, e, d, r⟩ => ⟨o, es, ep, hidT_get e (un e fun _ => .inl fun z => by subst z; cases d), d, r⟩
  have kb : K.In (hidT s₁.heap H) := fun b o e => hidT_get (KX b o e) (un (KX b o e) fun hba => by
    subst hba
    cases q : H b with
    | none => exact .inr rfl
    | some u => rw [hK (by rw [q]; exact fun z => nomatch z)] at e; cases e)
  have hM : Mod K mg (hidT s₁.heap H) := ⟨kb, nsK hns, ⟨mb, nsK hb, hbb⟩, let ⟨mc, h1, h2⟩ := hlim; ⟨mc, nsK h1, h2⟩⟩
  have e0 : Env0 P w K mg (hidT s₁.heap H) callerA [] s₁ H :=
    ⟨rfl, hM, fun b o e => of_hidT e, Nat.le_of_eq (hidT_size _ _), trivial, (fun b z => absurd (show b ∈ ([] : List Addr) from z) (by simp)), hok, .of_eq hg⟩
  refine codeAny_mono ((hF _ kb (nsK hns)).run callerA [] s₁ H ⟨[.ref a], []⟩ [.ref a] [.ref a] _ _ rfl hr e0 (hbind s₁ (.ref a)) (.cons rfl .nil) hsp) fun r s' h => ?_
  cases r with
  | error e =>
    obtain ⟨_, _, _, _, _, _, _, _, _, _, _, _, z⟩ := h
    exact z.elim
  | ok fl =>
    cases fl with
    | next => exact False.elim h
    | brk => exact False.elim h
    | cont => exact False.elim h
    | ret u =>
      obtain ⟨v, H', os, bare, un', hok', r', q⟩ := h
      have q' : v = .bl true := q
      subst q'
      obtain rfl : u = Value.bool true := r'
      refine ⟨rfl, OldK.of_keep fun b o e => ?_, os, bare⟩
      rcases hO b with z | ⟨ob, xs, z⟩
      · exact un'.keep b o e z (fun y => absurd (show b ∈ ([] : List Addr) from y) (by simp)) (by simp)
      · obtain ⟨e1, _⟩ := hok b _ z
        obtain ⟨e2, _⟩ := hok' b _ (un'.frzs b ob _ z)
        rw [e] at e1
        cases e1
        exact e2
theorem lawG (KX : K.In s₁.heap) (hns : s₁.heap.Ns mainGlobals mg) (hb : s₁.heap.Ns builtinsNs mb) (hbb : ∀ x : Str, x ≠ "__name__" → mb x = bootBuiltins x) (hlim : s₁.heap.NoLimit) (hg : s₁.gens = #[])
    (ha : s₁.heap.get? a = some { cls := .type "list", data := .seq vs.toArray }) (hi : IntsAre vs ns) (hl : ns.length ≤ sizeLine) (hr : Room k callerA)
    (hF : ∀ base : Heap, K.In base → base.Ns mainGlobals mg → FnG P w K mg base k fa fd [x] sp) (hbind : ∀ (s : Shared) (u : Value), BindsTo s fd ⟨[u], []⟩ [(x, u)])
    (hsp : ∀ H : Hp, Only H → SqL K H a (ns.map V.int) → sp [.ref a] H (fun v _ => v = .bl true) fun _ _ _ => False) :
    codeAny (model P w) callerA (.call (.ref fa) ⟨[.ref a], []⟩) (fun r s' => r = .ok (.ret (.bool true)) ∧ OldK s₁.heap s'.heap ∧ s'.os = s₁.os ∧ AllBare s'.gens) s₁ := by
  have rv := vals_ints hi
  have lenV := hi.length
  cases hk : K.lookup a with
  | some o =>
    have e := KX a o hk
    rw [ha] at e
    cases e
    refine lawG_at (H := fun _ => none) KX hns hb hbb hlim hg ha hr hF hbind (fun _ => .inl rfl) (fun b u z => by cases (show (none : Option HO) = some u from z)) (fun b z => absurd rfl z) (fun z => absurd rfl z) (hsp _ (fun _ => .inl rfl) ?_)
    exact .inr ⟨_, vs.toArray, _, hk, rfl, rfl, rfl, by rw [List.size_toArray, lenV]; exact hl, by simpa using rv⟩
  | none =>
    have hO : Only (fun b => if b = a then some (.frz { cls := .type "list", data := .seq vs.toArray } (.lst (ns.map V.int))) else none) := fun b => by
      by_cases z : b = a
      · exact .inr ⟨_, _, if_pos z⟩
      · exact .inl (if_neg z)
    refine lawG_at KX hns hb hbb hlim hg ha hr hF hbind hO (fun b u z => ?_) (fun b z => ?_) (fun _ => hk) (hsp _ hO (.inl (.inr ⟨{ cls := .type "list", data := .seq vs.toArray }, if_pos rfl⟩)))
    · by_cases y : b = a
      · have z' := (if_pos y).symm.trans z
        cases z'
        subst y
        exact ⟨ha, by rw [List.length_map]; exact hl, vs, _, rv, ha⟩
      · have z' := (if_neg y).symm.trans z
        cases z'
    · by_cases y : b = a
      · exact y
      · exact absurd (if_neg y) z
theorem walk_ofG {l : OpenLaw} {n : Nat} {q : Program} {loose : List Str} {XP : (Str → Option Value) → Heap → Prop} {YP : World → Heap → Prop} {d : DefRec} {K : Params → Frag} {sp : World → Sp}
    (hn : l.most = some n) (hn2 : n ≤ sizeLine) (hdf : d.params.defaults = []) (hr : Room k callerA) (hY : ∀ (w : World) (h : Heap), YP w h → (K w.params).In h)
    (F : ∀ (w : World) (mg : Str → Option Value) (fa : Addr) (h : Heap), (K w.params).In h → h.Ns mainGlobals mg → mg d.name = some (.ref fa) →
      ∃ fd : FuncData, (∀ (s : Shared) (u : Value), BindsTo s fd ⟨[u], []⟩ [(x, u)]) ∧ ∀ base : Heap, (K w.params).In base → base.Ns mainGlobals mg → FnG l.prog w (K w.params) mg base k fa fd [x] (sp w))
    (hsp : ∀ (w : World) (H : Hp) (a : Addr) (ns : List Int), ns.length ≤ n → Only H → SqL (K w.params) H a (ns.map V.int) → sp w [.ref a] H (fun v _ => v = .bl true) fun _ _ _ => False) :
    WalkO q loose XP YP l.row.toRowW d [] (fun f vs => PySem.call f vs) := by
  refine Att.attach_call hn hdf fun w s₀ s₁ mg mb fa o pm cd doc a vs ns G Y ho hd hcd hmg hobj hints hlen hg => ?_
  obtain ⟨fd, hb, hF⟩ := F w mg fa _ (hY w _ Y) G.T.g hmg
  exact lawG (hY w _ Y) G.T.g G.T.b G.T.builtins G.T.nolimit hg hobj hints (Nat.le_trans hlen hn2) hr hF hb fun H hO hS => hsp w H a ns hlen hO hS
end
end PV

namespace PV
open PySem L2 PyProof.Rows

/-! ### a comprehension over a slot's own list -/
open Classical in
/-- no exception may leave it; the list stays as it is -/
noncomputable def lcLoopO (i : Nat) (ps0 : List P) (t : TgF) (tt : M Bool) (fe : M P) (vs : List Nat) (π0 : En) : List P → List P → En → Out Rs
  | [], acc, π => if getL π i = some ps0 then .ok (.own (.lst acc)) (restE π0 π vs) else .bad
  | p :: ps, acc, π => if getL π i = some ps0 then (match t p π with
    | none => .bad
    | some π1 => match tt π1 with
      | .ok false π2 => if chk vs π2 = true then lcLoopO i ps0 t tt fe vs π0 ps acc (wipeE π2 vs) else .bad
      | .ok true π2 => (match fe π2 with
        | .ok q π3 => if chk vs π3 = true then lcLoopO i ps0 t tt fe vs π0 ps (acc ++ [q]) (wipeE π3 vs) else .bad
        | _ => .bad)
      | _ => .bad) else .bad
noncomputable def lcOF (i : Nat) (t : TgF) (tt : M Bool) (fe : M P) (vs : List Nat) : M Rs := fun π => match getL π i with
  | some ps => if chk vs π = true ∧ i ∉ vs then lcLoopO i ps t tt fe vs π ps [] (wipeE π vs) else .bad
  | none => .bad
def LcInvO (c : Ctx) (w : Ws) (i0 : Nat) (ps0 : List P) (t : TgF) (tt : M Bool) (fe : M P) (vs : List Nat) (F1 : Hp) (π1 : En) (σ : L2.St) (H1 : Hp) (ps : List P) (K : Rs → En → Hp → Hp → Prop) (D : Addr) (i : Nat) (H' : Hp) : Prop :=
  ∃ F' π' acc va, Le F1 F' ∧ w.g F' ∧ SR c F' π' (wipe σ vs) H' ∧ H' D = some (.lst va) ∧ Rps c F' acc va ∧ acc.length ≤ i ∧ F' D = none ∧ ¬ Own π' (wipe σ vs) D ∧ Tr F1 (wipeE π1 vs) (wipe σ vs) H1 F' π' (wipe σ vs) H' ∧
    Po c w.W F1 π1 σ H1 (lcLoopO i0 ps0 t tt fe vs π1 (ps.drop i) acc π') K
section
variable {X : Cx} {c : Ctx} {w : Ws} {elt tg : Expr} {x : Str} {xp : Pos} {ifs : List Expr} {scope : Scope} {own : List (Str × Nat)} {pos : Pos} {i0 : Nat} {t : TgF} {ft : M Bool} {fe : M P} {sl : List Nat}
theorem wk_own {F : Hp} {a : Addr} {vs : List V} {ps : List P} {G : Hp} (hG : G a = some (.lst vs)) (r : Rps c F ps vs) {K : PySem.W.Frag} :
    (Itl K a).stop ps.length G ∧ (∀ i, i < ps.length → (Itl K a).go i G) ∧ ∀ i p x G', ps[i]? = some p → (Itl K a).yld i G x G' → G' = G ∧ Rp c F p x :=
  ⟨⟨vs, .of hG, by rw [rps_len r]; exact Nat.le_refl _⟩, fun i hi => ⟨vs, vs[i]'(by rw [← rps_len r]; exact hi), .of hG, List.getElem?_eq_getElem _⟩, fun i p x G' e y => by
    obtain ⟨rfl, y⟩ := y
    exact ⟨rfl, get_rp r e (y vs (.of hG))⟩⟩
theorem lcO_weak (hsl : ∀ j ∈ sl, j ∈ own.map (·.2)) {K : PySem.W.Frag} {tl : TE} (htl : ∀ σ H (a : Addr), σ[i0]? = some (some (.ref a)) → ∀ Q : VK, Q (.ref a) H → tl σ H Q) : ∀ σ H Q, tE c w (lcOF i0 t ft fe (own.map (·.2))) σ H Q →
    tLc (iTwo K tl) (tG c w.blk sl t) (tT c w.blk ft) (tV c w.blk fe) (own.map (·.2)) σ H Q := fun σ H Q ⟨F, π, gg, s, po⟩ => by
  generalize own.map (·.2) = vs at *
  unfold lcOF at po
  cases e0 : getL π i0 with
  | none => rw [e0] at po; exact po.elim
  | some ps =>
    simp only [e0] at po
    by_cases hcc : chk vs π = true ∧ i0 ∉ vs
    case neg => rw [if_neg hcc] at po; exact po.elim
    rw [if_pos hcc] at po
    obtain ⟨hc, hi0⟩ := hcc
    obtain ⟨a, va0, hσ, hHa, ra0⟩ := s.getL e0
    refine htl σ H a hσ _ (.inl ⟨a, va0, rfl, .of hHa, fun hz => fun D hD => ?_⟩)
    have gD : Gr F H F (L2.upd H D (.lst [])) := gr_lst s.le hD
    obtain ⟨sw, tw⟩ := wipe_ok s vs fun v hv => chk_at hc hv
    have sgi : (wipe σ vs)[i0]? = some (some (.ref a)) := by rw [wipe_get, if_neg fun h => hi0 h.1]; exact hσ
    refine ⟨fun i m H' => m = ps.length - i ∧ i ≤ ps.length ∧ LcInvO c w i0 ps t ft fe vs F π σ H ps (fun r π' F' H' => ∀ v, RR c π H F' π' σ H' r v → Q v H') D i H',
      ⟨_, rfl, Nat.zero_le _, F, wipeE π vs, [], [], Le.refl _, gg, gD.sr sw, upd_same, rps_nil, Nat.le_refl _, s.le.gone hD, fun z => ?_, gD.tr, po⟩, ?_⟩
    · obtain ⟨u, hu⟩ := own_some sw z
      rw [hD] at hu; cases hu
    rintro i m H' ⟨rfl, hi, F', π', acc, va, l1, g', s', hDa, ra, hal, hFD, hnD, t', po'⟩
    have hstay : getL π' i0 = some ps := by
      by_cases z : getL π' i0 = some ps
      · exact z
      · cases q : ps.drop i with
        | nil => rw [q] at po'; unfold lcLoopO at po'; rw [if_neg z] at po'; exact po'.elim
        | cons p l => rw [q] at po'; unfold lcLoopO at po'; rw [if_neg z] at po'; exact po'.elim
    obtain ⟨a', vb, hσ', hHb, rb⟩ := s'.getL hstay
    rw [sgi] at hσ'
    have ea : a = a' := by injection Option.some.inj (Option.some.inj hσ')
    subst ea
    obtain ⟨wstop, wgo, wyld⟩ := wk_own (K := K) hHb rb
    by_cases hlt : i < ps.length
    · refine .inr ⟨wgo i hlt, fun H2 => (ps.length - (i + 1)) = ps.length - (i + 1) ∧ i + 1 ≤ ps.length ∧ LcInvO c w i0 ps t ft fe vs F π σ H ps (fun r π' F' H' => ∀ v, RR c π H F' π' σ H' r v → Q v H') D (i + 1) H2,
        fun H2 q => ⟨ps.length - (i + 1), by omega, q⟩, fun x H2 y => ?_⟩
      obtain ⟨e2, rx⟩ := wyld i ps[i] x H2 (List.getElem?_eq_getElem hlt) y
      subst e2
      rw [List.drop_eq_getElem_cons hlt] at po'
      refine ⟨F', π', ps[i], g', s', rx, ?_⟩
      unfold lcLoopO at po'
      rw [if_pos hstay] at po'
      cases e1 : t ps[i] π' with
      | none => simp only [e1] at po'; exact po'.elim
      | some π2 =>
        simp only [e1] at po'
        intro σ3 s3 t3 k3 n3
        have hw : wipe σ3 vs = wipe σ vs := wipe_same (fun j z => k3 j fun q => z (hsl j q)) (by rw [n3, wipe_length])
        refine ⟨hw, F', π2, g', s3, ?_⟩
        have fin : ∀ {π4 : En} {F4 H4 : Hp}, chk vs π4 = true → Tr F' π2 σ3 H2 F4 π4 σ3 H4 → SR c F4 π4 σ3 H4 → SR c F4 (wipeE π4 vs) (wipe σ vs) H4 ∧ Tr F (wipeE π vs) (wipe σ vs) H F4 (wipeE π4 vs) (wipe σ vs) H4 ∧ H4 D = some (.lst va) ∧ F4 D = none ∧ ¬ Own (wipeE π4 vs) (wipe σ vs) D := fun {π4 F4 H4} hc4 t4 s4 => by
          obtain ⟨s6, t6⟩ := wipe_ok s4 vs fun v hv => chk_at hc4 hv
          have tl := t6 _ _ _ _ (t3.trans t4)
          rw [hw] at s6 tl
          refine ⟨s6, t'.trans tl, tl.keep D _ hDa hnD, ?_, fun z => ?_⟩
          · cases q : F4 D with
            | none => rfl
            | some x =>
              rcases tl.new D (by rw [q]; exact fun z => nomatch z) with z | z | z
              · exact absurd hFD z
              · rw [hDa] at z; cases z
              · exact absurd z hnD
          · rcases tl.own D z with q | q
            · rw [hDa] at q; cases q
            · exact hnD q
        cases e2 : ft π2 with
        | bad => simp only [e2] at po'; exact po'.elim
        | exc C qs π4 => simp only [e2] at po'; exact po'.elim
        | ok b π4 =>
          intro F4 H4 t4 s4
          have l4 : Le F F4 := l1.trans t4.le
          have g4 := w.mono _ _ t4.le g'
          cases b with
          | false =>
            simp only [e2] at po'
            by_cases hc4 : chk vs π4 = true
            case neg => rw [if_neg hc4] at po'; exact po'.elim
            rw [if_pos hc4] at po'
            obtain ⟨s6, tl, d1, d2, d3⟩ := fin hc4 t4 s4
            refine iteF ?_
            exact ⟨rfl, hlt, F4, _, acc, va, l4, g4, s6, d1, Rps.mono t4.le _ _ ra, by omega, d2, d3, tl, po'⟩
          | true =>
            simp only [e2] at po'
            refine iteT ?_
            refine ⟨F4, π4, g4, s4, ?_⟩
            cases e3 : fe π4 with
            | bad => simp only [e3] at po'; exact po'.elim
            | exc C qs π5 => simp only [e3] at po'; exact po'.elim
            | ok q π5 =>
              simp only [e3] at po'
              by_cases hc5 : chk vs π5 = true
              case neg => rw [if_neg hc5] at po'; exact po'.elim
              rw [if_pos hc5] at po'
              intro F5 H5 t5 s5 y hy
              obtain ⟨s6, tl, d1, d2, d3⟩ := fin hc5 (t4.trans t5) s5
              have hva : va.length = acc.length := (rps_len ra).symm
              have hpz : ps.length ≤ sizeLine := by rw [rps_len ra0]; exact hz
              refine ⟨va, d1, by omega, rfl, hlt, F5, _, acc ++ [q], va ++ [y], l4.trans t5.le, w.mono _ _ t5.le g4, s6.other d2 d3, upd_same, rps_append (Rps.mono (t4.le.trans t5.le) _ _ ra) (rps_cons hy rps_nil), by simp; omega, d2, d3, tl.other hD, po'⟩
    · have e : i = ps.length := by omega
      subst e
      rw [List.drop_length] at po'
      unfold lcLoopO at po'
      rw [if_pos hstay] at po'
      obtain ⟨s5, t5, ow5⟩ := rest_ok s hc s' t'
      exact .inl ⟨wstop, po' F' H' t5 s5 _ ⟨D, rfl, hFD, fun z => hnD (ow5 D z), ⟨va, hDa, ra⟩, .inl hD⟩⟩
theorem htl_name {pos : Pos} : ∀ (σ : L2.St) (H : Hp) (a : Addr), σ[i0]? = some (some (.ref a)) → ∀ Q : VK, Q (.ref a) H → tVar i0 σ H Q := fun σ H a h Q q => ⟨.ref a, h, q⟩
theorem p_lcO (hsl : ∀ j ∈ sl, j ∈ own.map (·.2)) (hc : X.calm = true) (hN : X.N.Nodup) (hi0 : X.N[i0]? = some x) (hv : Vis X.env.scope x) (ok : BlkOk X.N X.env.scope scope own)
    (hg : ∀ (s : Shared) (H : Hp) (C : Addr) (cl : List (Str × Addr)) (fp : List Addr), PG (X.blk s H scope (compEnvC scope cl C X.env) fp) tg (tG c w.blk sl t)) (ht : ∀ (s : Shared) (H : Hp) (C : Addr) (cl : List (Str × Addr)) (fp : List Addr), PTs (X.blk s H scope (compEnvC scope cl C X.env) fp) ifs (tT c w.blk ft))
    (he : ∀ (s : Shared) (H : Hp) (C : Addr) (cl : List (Str × Addr)) (fp : List Addr), PE (X.blk s H scope (compEnvC scope cl C X.env) fp) elt (tV c w.blk fe)) (hs : ∀ y, foldedSetIterable (.Name x xp) X.env y = pure y := by intro _; rfl)
    (hd : (x == ("__debug__" : Str)) = false := by decide) (hcd : (x == ("__classdict__" : Str)) = false := by decide) :
    PE X (.ListComp elt [⟨tg, .Name x xp, ifs, 0⟩] scope pos) (tE c w (lcOF i0 t ft fe (own.map (·.2)))) :=
  pe_weak (pe_lc hc hN (pi_two (pe_var (i := i0) hi0 hv hd hcd)) ok hg ht he hs) (lcO_weak hsl (fun σ H a h Q q => ⟨.ref a, h, q⟩))
end
end PV

namespace PV
open PySem PySem.Spec L2 PyProof.Rows

/-! ### short forms -/
theorem hu64 {k : Nat} {A : Around} (r : Room k A) : A.units + 64 < cLine := by have := r.un; omega
theorem hu65 {k : Nat} {A : Around} (r : Room k A) : A.units + 65 < cLine := by have := r.un; omega
/-- the def x of n parameters computes Fn -/
structure Ca (P : Program) (w : World) (K : PySem.W.Frag) (mg : Str → Option Value) (base : Heap) (c : Ctx) (k : Nat) (x : Str) (n : Nat) (Fn : FN) : Prop where
  ex : ∃ (f : Addr) (fd : FuncData) (ps : List Str), FnG P w K mg base k f fd ps (spF c n Fn) ∧ mg x = some (.ref f) ∧ PySem.W.keepIn K (.ref f) = true ∧ Binds K fd ps []
/-- where the def x stands -/
structure At (K : PySem.W.Frag) (mg : Str → Option Value) (x : Str) (st : Stmt) (ps : List Str) : Prop where
  ex : ∃ (f : Addr) (fd : FuncData), Fun K x x st f fd ∧ mg x = some (.ref f) ∧ Binds K fd ps []
theorem ca_of {P : Program} {w : World} {K : PySem.W.Frag} {mg : Str → Option Value} {base : Heap} {c : Ctx} {k : Nat} {x : Str} {st : Stmt} {N ps : List Str} {body : M Fl} {m n : Nat} (D : At K mg x st ps) (S : FnScope N ps (defScope st)) (hn : ps.length = n) (hm : N.length - ps.length = m)
    (hb : ∀ (f : Addr) (cdv : Value) (A : Around) (outer : List Env) (s : Shared) (H : Hp) (E : XK), A.guards = some [] → Room k (A.deeper (envOfC x (defScope st) s.heap.objs.size f cdv)) →
      PSs (cxOf (L2.CX P w) P w K mg base N x (defScope st) f cdv A outer s H E) (defBody st) (tS c (wE E) body)) : Ca P w K mg base c (k + 1) x n (fnF m body) := by
  subst hn hm
  obtain ⟨f, fd, F, hm, hb2⟩ := D.ex
  exact ⟨f, fd, ps, fn_okG F S fun cdv A outer s H E hg hr => hb f cdv A outer s H E hg hr, hm, F.kp, hb2⟩
theorem Ca.mono {P : Program} {w : World} {K : PySem.W.Frag} {mg : Str → Option Value} {base : Heap} {c : Ctx} {j k : Nat} {x : Str} {n : Nat} {Fn : FN} (C : Ca P w K mg base c j x n Fn) (h : j ≤ k) : Ca P w K mg base c k x n Fn := by
  obtain ⟨f, fd, ps, G, r⟩ := C.ex
  exact ⟨f, fd, ps, G.mono h, r⟩
section
variable {X : Cx} {c : Ctx} {w : Wi} {k j n : Nat} {Fn : FN} {x : Str} {p pos : Pos} {e : Expr} {es : List Expr} {fa : M (List Rs)} {id T : String} {r : List V → Hp → VK → Prop} {o : List P → Option Rv}
theorem p_ca (C : Ca X.prog X.w X.K X.mg X.base c j x n Fn) (hj : j ≤ k) (hgd : X.A.guards = some []) (hr : Room k X.A) (tk : Takes X w.W) (hg : Gl X x)
    (ha : PA X (e :: es) (tR c w fa)) (hlen : ∀ π rs π', fa π = .ok rs π' → rs.length = n) (hdb : (x == ("__debug__" : Str)) = false := by decide) (he : starEach (e :: es) X.env = (false, eval e X.env) :: starEach es X.env := by rfl) (hpl : (backTo pos (starEach es X.env)).any (·.1) = false := by rfl) :
    PE X (.Call (.Name x p) (e :: es) [] pos) (tE c w (callF Fn fa)) := by
  obtain ⟨f, fd, ps, G, hm, hk, hb⟩ := C.ex
  exact p_callG G hgd (hr.mono hj) hg hm hk hb tk ha hlen hdb he hpl
theorem p_blt (hop : CallR X (.builtin id) r) (hv : CalV c r o) (hg : Gl X x) (hm : X.mg x = none) (hb : bootBuiltins x = some (.builtin id)) (ha : PA X (e :: es) (tR c w fa)) (hn : x ≠ "__name__" := by decide) (hdb : (x == ("__debug__" : Str)) = false := by decide)
    (he : starEach (e :: es) X.env = (false, eval e X.env) :: starEach es X.env := by rfl) (hpl : (backTo pos (starEach es X.env)).any (·.1) = false := by rfl) : PE X (.Call (.Name x p) (e :: es) [] pos) (tE c w (calF o fa)) :=
  pe_weak (pe_callB hop hg hm hb ha hn hdb he hpl) (cal_weak hv)
theorem p_bty (hop : CallR X (.type T) r) (hv : CalV c r o) (hg : Gl X x) (hm : X.mg x = none) (hb : bootBuiltins x = some (.type T)) (ha : PA X (e :: es) (tR c w fa)) (hn : x ≠ "__name__" := by decide) (hdb : (x == ("__debug__" : Str)) = false := by decide)
    (he : starEach (e :: es) X.env = (false, eval e X.env) :: starEach es X.env := by rfl) (hpl : (backTo pos (starEach es X.env)).any (·.1) = false := by rfl) : PE X (.Call (.Name x p) (e :: es) [] pos) (tE c w (calF o fa)) :=
  pe_weak (pe_callTy hop hg hm hb ha hn hdb he hpl) (cal_weak hv)
theorem p_ty {T : String} (hg : Gl X x) (hm : X.mg x = none) (hb : bootBuiltins x = some (.type T)) (hn : x ≠ "__name__" := by decide) (hdb : (x == ("__debug__" : Str)) = false := by decide) : PE X (.Name x pos) (tE c w (cF (.ty T))) :=
  pe_weak (pe_bltn (v := .ty T) hg hm hb rfl hn hdb) (tC_of fun _ => mk_ty)
end
theorem bb_len : bootBuiltins "len" = some (.builtin "len") := by decide +kernel
theorem bb_abs : bootBuiltins "abs" = some (.builtin "abs") := by decide +kernel
theorem bb_sum : bootBuiltins "sum" = some (.builtin "sum") := by decide +kernel
theorem bb_max : bootBuiltins "max" = some (.builtin "max") := by decide +kernel
theorem bb_min : bootBuiltins "min" = some (.builtin "min") := by decide +kernel
theorem bb_all : bootBuiltins "all" = some (.builtin "all") := by decide +kernel
theorem bb_any : bootBuiltins "any" = some (.builtin "any") := by decide +kernel
theorem bb_repr : bootBuiltins "repr" = some (.builtin "repr") := by decide +kernel
theorem bb_isinstance : bootBuiltins "isinstance" = some (.builtin "isinstance") := by decide +kernel
theorem bb_int : bootBuiltins "int" = some (.type "int") := by decide +kernel
theorem bb_bool : bootBuiltins "bool" = some (.type "bool") := by decide +kernel
theorem bb_str : bootBuiltins "str" = some (.type "str") := by decide +kernel
theorem bb_list : bootBuiltins "list" = some (.type "list") := by decide +kernel
theorem bb_tuple : bootBuiltins "tuple" = some (.type "tuple") := by decide +kernel
end PV
namespace PV
open PySem PySem.Spec L2 PyProof.Rows
theorem ca_bad {P : Program} {w : World} {K : PySem.W.Frag} {mg : Str → Option Value} {base : Heap} {c : Ctx} {k : Nat} {x : Str} {st : Stmt} {ps : List Str} (D : At K mg x st ps) : Ca P w K mg base c k x ps.length (fun _ => .bad) := by
  obtain ⟨f, fd, F, hm, hb2⟩ := D.ex
  refine ⟨f, fd, ps, ⟨fun vs H Q E ⟨F, πs, hl, _, sr, _⟩ => ?_, fun A outer s H args us vs Q E _ _ _ _ _ ⟨F, πs, _, _, _, po⟩ => po.elim⟩, hm, F.kp, hb2⟩
  have := sr.len
  simp at this
  omega
theorem lay1 {f : Str} : ∀ vs : List V, (([f]).zip vs).reverse.lookup f = vs[0]?
  | [] => rfl
  | v :: vs => by simp [List.lookup]
theorem lay2_0 {f g : Str} (h : (f == g) = false) : ∀ vs : List V, (([f, g]).zip vs).reverse.lookup f = vs[0]?
  | [] => rfl
  | [v] => by simp [List.lookup]
  | v :: w :: vs => by simp [List.lookup, h]
theorem lay2_1 {f g : Str} (h : (g == f) = false) : ∀ vs : List V, (([f, g]).zip vs).reverse.lookup g = vs[1]?
  | [] => rfl
  | [v] => by simp [List.lookup, h]
  | v :: w :: vs => by simp [List.lookup]
theorem t_w {X : Cx} {e : Expr} {t : TT} (h : PW X e t) : PT X e t := h.pt
end PV
namespace PV
open PySem PySem.Spec L2 PyProof.Rows
theorem fnG_by {P : Program} {w : World} {K : PySem.W.Frag} {mg : Str → Option Value} {base : Heap} {c : Ctx} {k : Nat} {x : Str} {f : Addr} {fd : FuncData} {st : Stmt} {N ps : List Str} {body : M Fl} {m n : Nat} (Fd : Fun K x x st f fd) (S : FnScope N ps (defScope st)) (hn : ps.length = n) (hm : N.length - ps.length = m)
    (hb : ∀ (cdv : Value) (A : Around) (outer : List Env) (s : Shared) (H : Hp) (E : XK), A.guards = some [] → Room k (A.deeper (envOfC x (defScope st) s.heap.objs.size f cdv)) →
      PSs (cxOf (L2.CX P w) P w K mg base N x (defScope st) f cdv A outer s H E) (defBody st) (tS c (wE E) body)) : FnG P w K mg base (k + 1) f fd ps (spF c n (fnF m body)) := by
  subst hn hm
  exact fn_okG Fd S hb
/-- law's promise: a list of at most 63 ints is handed in, True comes out -/
def spLaw (K : PySem.W.Frag) : Sp := fun vs H Q _ => ∃ (a : Addr) (ns : List Int), vs = [.ref a] ∧ SqL K H a (ns.map V.int) ∧ ns.length ≤ 63 ∧ ∀ H', Q (.bl true) H'
theorem law_by {P : Program} {w : World} {K : PySem.W.Frag} {mg : Str → Option Value} {base : Heap} {c : Ctx} {k : Nat} {f : Addr} {fd : FuncData} {ps : List Str} {Fn : FN} (hc : c.K = K) (G : FnG P w K mg base k f fd ps (spF c 1 Fn))
    (hp : ∀ ns : List Int, ns.length ≤ 63 → ∃ πs', Fn [.val (.scr ns)] = .ok (.val (.bl true)) πs') : FnG P w K mg base k f fd ps (spLaw K) := by
  have conv : ∀ vs H Q E, spLaw K vs H Q E → spF c 1 Fn vs H Q E := fun vs H Q E ⟨a, ns, e, hS, hl, q⟩ => by
    subst e hc
    obtain ⟨πs', he⟩ := hp ns hl
    refine ⟨H, [.val (.scr ns)], rfl, fun i o z => ?_, ⟨Le.refl H, rfl, fun i p z => ?_, fun i s o z z2 => ?_, fun i j s s' o o' b z z2 _ _ _ _ => ?_⟩, ?_⟩
    · cases i <;> simp at z
    · cases i with
      | zero => simp at z; subst z; exact ⟨_, rfl, mk_scr hS⟩
      | succ i => simp at z
    · cases i with
      | zero => simp at z; subst z; cases z2
      | succ i => simp at z
    · cases i with
      | zero => simp at z; subst z; cases z2
      | succ i => simp at z
    · rw [he]
      intro v F' H' t s' hr
      rw [rp_bl (show Rp c F' (.bl true) v from hr)]
      exact q H'
  exact ⟨fun vs H Q E h => G.len vs H Q E (conv vs H Q E h), fun A outer s H args us vs Q E hg hr e0 hb r h => G.run A outer s H args us vs Q E hg hr e0 hb r (conv vs H Q E h)⟩
/-- what stands of a def -/
theorem at_mk {K : PySem.W.Frag} {mg : Str → Option Value} {h : Heap} {x : Str} {st : Stmt} {ps : List Str} {f : Addr} {od an : Option Addr} {sl : Array (Option Value)} {oc kV dc pm cd ct : Value} (X : K.In h) (G : h.Ns mainGlobals mg)
    (a : PySem.W.nsIn K mainGlobals x = some (some (.ref f))) (l : K.lookup f = some ⟨oc, od, .func (PySem.W.fnOf x x (defArgs st) (defBody st) (defScope st) .none kV dc pm an cd ct), sl⟩) (c : PySem.W.codeIn K cd x = true) (k : PySem.W.keepIn K (.ref f) = true)
    (hb : ∀ (kV doc pm : Value) (an : Option Addr) (cdv ct : Value) (us : List Value), us.length = ps.length → bindArgs (PySem.W.fnOf x x (defArgs st) (defBody st) (defScope st) .none kV doc pm an cdv ct) ⟨us, []⟩ = pure (ps.zip us)) : At K mg x st ps :=
  ⟨f, _, fun_mk (st := st) l c k, PySem.W.mg_of X G a, (fun_mk (st := st) l c k).binds hb⟩
end PV

namespace PV
open PySem PySem.Spec L2 PyProof.Rows
theorem sup_mk {K : PySem.W.Frag} {C B : Addr} {nm : Str} {cd cdB : ClassData} {c0 : Value} {d0 : Option Addr} {s0 : Array (Option Value)} {v : Value} (h1 : PySem.W.clsIn K C = some cd) (h2 : K.lookup B = some ⟨c0, d0, .cls cdB, s0⟩)
    (h3 : (cd.mro.dropWhile (· != .ref C)).drop 1 = cdB.mro) (h4 : PySem.W.findIn K (.ref B) nm = some (some v)) : PySem.W.ks_superIn K C C nm = some (some v) := by
  unfold PySem.W.ks_superIn
  rw [h1, Option.bind_some, h3]
  unfold PySem.W.findIn at h4
  simp only [h2] at h4
  exact h4
end PV

namespace PV
open PySem PySem.Spec L2 PyProof.Rows

/-! ### fields of own objects -/
def fldP (lay : Nat → List Str) (C0 : Nat) (f : Str) : P → Option Rv
  | .obj C vs => if C = C0 then (((lay C).zip vs).lookup f).map .val else none
  | _ => none
theorem zip_lookup {c : Ctx} {F : Hp} {f : Str} : ∀ {l : List Str} {ps : List P} {vs : List V} {p : P}, Rps c F ps vs → (l.zip ps).lookup f = some p → ∃ v, (l.zip vs).lookup f = some v ∧ Rp c F p v
  | [], _, _, _, _, e => by cases e
  | _ :: _, [], _, _, _, e => by cases e
  | x :: l, q :: ps, _, p, r, e => by
    obtain ⟨v, vs, rfl, r1, r2⟩ := rps_inv r
    rw [List.zip_cons_cons, List.lookup_cons] at e
    rw [List.zip_cons_cons, List.lookup_cons]
    cases h : f == x with
    | true =>
      rw [h] at e
      cases e
      exact ⟨v, rfl, r1⟩
    | false =>
      rw [h] at e
      exact zip_lookup r2 e
def rFld (K : PySem.W.Frag) (f : Str) : V → Hp → VK → Prop := fun x H Q => ∃ a C dx fs v, x = .ref a ∧ H a = some (.ins C dx fs) ∧ Cls K C ∧ NoAttr K C f ∧ fs.lookup f = some v ∧ Q v H
theorem Rb.obj {c : Ctx} {F H : Hp} {C : Nat} {ps : List P} {v : V} (l : Le F H) (h : Rb c F H (.obj C ps) v) : ∃ a dx vs, v = .ref a ∧ H a = some (.ins (c.cls C) dx ((c.lay C).zip vs)) ∧ Rps c F ps vs := by
  rcases h with h | ⟨a, o, e, h1, h2⟩
  · obtain ⟨a, dx, vs, e, h1, h2⟩ := rp_obj h
    exact ⟨a, dx, vs, e, l.ins h1, h2⟩
  · cases o with
    | lst qs => cases h2
    | dct t ks ws => cases h2
    | obj C' qs =>
      cases h2
      obtain ⟨dx, vs, h1, h3⟩ := h1
      exact ⟨a, dx, vs, e, h1, h3⟩
theorem v_fld {c : Ctx} {C0 : Nat} {f : Str} (hC : Cls c.K (c.cls C0)) (hn : NoAttr c.K (c.cls C0) f) : UnV c (rFld c.K f) (fldP c.lay C0 f) := by
  intro F H p x res Q l h e k
  cases p with
  | obj C vs =>
    change (if C = C0 then (((c.lay C).zip vs).lookup f).map Rv.val else none) = some res at e
    by_cases z : C = C0
    · subst z
      rw [if_pos rfl] at e
      cases q : ((c.lay C).zip vs).lookup f with
      | none => rw [q] at e; cases e
      | some p =>
        rw [q] at e
        cases e
        obtain ⟨a, dx, us, rfl, h1, h2⟩ := h.obj l
        obtain ⟨v, h3, h4⟩ := zip_lookup h2 q
        exact ⟨a, _, dx, _, v, rfl, h1, hC, hn, h3, give l k h4⟩
    · rw [if_neg z] at e; cases e
  | _ => cases e
section
variable {X : Cx} {c : Ctx} {w : Wi} {e : Expr} {f : Str} {pos : Pos} {fe : M Rs} {C0 : Nat}
theorem p_fld (hK : X.K = c.K) (hC : Cls c.K (c.cls C0)) (hn : NoAttr c.K (c.cls C0) f) (he : PE X e (tE c w fe)) (hb : attributeBase e f X.env (eval e X.env) = eval e X.env := by rfl) : PE X (.Attribute e f pos) (tE c w (unF (fldP c.lay C0 f) fe)) :=
  pe_weak (pe_fld he hb) fun σ H Q ⟨F, π, gg, s, po⟩ => by
    refine ⟨F, π, gg, s, (Po.split po).mono fun r1 π1 F1 H1 t1 s1 p1 x hx => ?_⟩
    unfold op1 at p1
    cases e1 : rdP π1 r1 with
    | none => rw [e1] at p1; exact p1.elim
    | some q1 =>
      rw [e1] at p1
      obtain ⟨rv, e3, k⟩ := outR_post s1 p1
      rw [hK]
      refine v_fld hC hn F1 H1 q1 x rv Q s1.le (hx.rb s1 e1) e3 fun v F3 H3 gr rn => ?_
      obtain ⟨k1, k2⟩ := k v F3 H3 gr rn
      exact k1 v (k2.base t1)
end
/-- a field is put: at its place, or behind the others -/
def putV {α : Type} (f : Str) (y : α) : List Str → List α → Option (List α)
  | [], _ => none
  | g :: l, [] => if f = g then some [y] else none
  | g :: l, v :: vs => if f = g then some (y :: vs) else (putV f y l vs).map (v :: ·)
theorem putV_F {c : Ctx} {F : Hp} {f : Str} {p : P} {y : V} (hy : Rp c F p y) : ∀ {l : List Str} {ps qs : List P} {vs : List V}, Rps c F ps vs → putV f p l ps = some qs → ∃ us, putF f y (l.zip vs) = l.zip us ∧ Rps c F qs us
  | [], _, _, _, _, e => by cases e
  | g :: l, [], _, _, r, e => by
    rw [rps_nil_inv r]
    unfold putV at e
    split at e
    · rename_i h
      cases e
      subst h
      exact ⟨[y], by cases l <;> rfl, rps_cons hy rps_nil⟩
    · cases e
  | g :: l, q :: ps, _, _, r, e => by
    obtain ⟨v, vs, rfl, r1, r2⟩ := rps_inv r
    unfold putV at e
    split at e
    · rename_i h
      cases e
      subst h
      refine ⟨y :: vs, ?_, rps_cons hy r2⟩
      show (if f = f then (f, y) :: l.zip vs else _) = _
      rw [if_pos rfl]; rfl
    · rename_i h
      cases e1 : putV f p l ps with
      | none => rw [e1] at e; cases e
      | some qs' =>
        rw [e1] at e
        cases e
        obtain ⟨us, h1, h2⟩ := putV_F hy r2 e1
        refine ⟨v :: us, ?_, rps_cons r1 h2⟩
        show (if g = f then _ else (g, v) :: putF f y (l.zip vs)) = _
        rw [if_neg (fun z => h z.symm), h1]; rfl
/-- slot i's own object of class C0 -/
def slO (C0 : Nat) : Sl → Option (List P)
  | .own (.obj C vs) => if C = C0 then some vs else none
  | .loan (.obj C vs) => if C = C0 then some vs else none
  | _ => none
theorem slO_ow {C0 : Nat} {sl : Sl} {vs : List P} (h : slO C0 sl = some vs) : sl.ow = some (.obj C0 vs) := by
  have key : ∀ o, (match o with | O.obj C vs => if C = C0 then some vs else none | _ => none) = some vs → some o = some (.obj C0 vs) := fun o h => by
    cases o with
    | obj C us =>
      by_cases z : C = C0
      · subst z
        have h' : (if C = C then some us else none) = some vs := h
        rw [if_pos rfl] at h'
        cases h'
        rfl
      · have h' : (if C = C0 then some us else none) = some vs := h
        rw [if_neg z] at h'
        cases h'
    | _ => cases h
  cases sl with
  | own o => exact key o (by cases o <;> exact h)
  | loan o => exact key o (by cases o <;> exact h)
  | _ => cases h
def getO (C0 : Nat) (π : En) (i : Nat) : Option (List P) := (π[i]?).bind (slO C0)
def putO (C0 : Nat) (π : En) (i : Nat) (vs : List P) : En := match π[i]? with
  | some sl => π.set i (sl.put (.obj C0 vs))
  | none => π
def fstR (lay : Nat → List Str) (i C0 : Nat) (f : Str) (p : P) : M Fl := fun π => match getO C0 π i with
  | some vs => (match putV f p (lay C0) vs with
    | some ws => .ok .nx (putO C0 π i ws)
    | none => .bad)
  | none => .bad
/-- self.f = e -/
def fstF (lay : Nat → List Str) (i C0 : Nat) (f : Str) (fe : M P) : M Fl := fun π => (fe π).bind (fstR lay i C0 f)
section
variable {X : Cx} {c : Ctx} {w : Ws} {e : Expr} {x f : Str} {xp tp pos : Pos} {i C0 : Nat} {fe : M P}
theorem s_fst (hK : X.K = c.K) (hC : Cls c.K (c.cls C0)) (hn : NoAttr c.K (c.cls C0) f) (hl : (c.lay C0).length < 1000) (ho : PE X (.Name x xp) (tE c w (varF i))) (he : PE X e (tV c w fe))
    (hs : swapsWith e (some (.Attribute (.Name x xp) f tp)) pos.line X.env = pure false := by rfl) : PS X (.Assign [.Attribute (.Name x xp) f tp] e pos) (tS c w (fstF c.lay i C0 f fe)) :=
  ps_weak (ps_fld ho he hs) fun D σ H ⟨F, π, gg, s, po⟩ => by
    refine ⟨F, π, gg, s, (PoS.split po).mono fun p π1 F1 H1 t1 s1 p1 y hy => ?_⟩
    unfold fstR at p1
    cases e1 : getO C0 π1 i with
    | none => rw [e1] at p1; exact p1.elim
    | some vs =>
      rw [e1] at p1
      cases e2 : putV f p (c.lay C0) vs with
      | none => simp only [e2] at p1; exact p1.elim
      | some ws =>
        simp only [e2] at p1
        obtain ⟨sl, h1, h2⟩ : ∃ sl, π1[i]? = some sl ∧ slO C0 sl = some vs := by
          unfold getO at e1
          cases q : π1[i]? with
          | none => rw [q] at e1; cases e1
          | some sl => rw [q] at e1; exact ⟨sl, rfl, e1⟩
        have how := slO_ow h2
        obtain ⟨a, hσ, hF, dx, us, hH, hr⟩ := s1.ow i sl _ h1 how
        refine ⟨F1, π1, w.mono _ _ t1.le gg, s1, ?_⟩
        have hvar : varF i π1 = .ok (.bor i) π1 := by
          unfold varF
          rw [h1]
          cases sl with
          | own o => rfl
          | loan o => rfl
          | _ => cases how
        rw [hvar]
        intro F2 H2 t2 s2 v2 hv2
        have hv3 : v2 = .ref a := by
          have z : σ[i]? = some (some v2) := hv2
          rw [hσ] at z
          exact (Option.some.inj (Option.some.inj z)).symm
        obtain ⟨a', hσ', _, dx', us', hH', hr'⟩ := s2.ow i sl _ h1 how
        rw [hσ] at hσ'
        cases hσ'
        obtain ⟨zs, e3, hz⟩ := putV_F (Rp.mono t2.le _ _ hy) hr' e2
        have hput : putO C0 π1 i ws = π1.set i (sl.put (.obj C0 ws)) := by unfold putO; rw [h1]
        rw [hput] at p1
        obtain ⟨s3, t3⟩ := s2.put (o' := .obj C0 ws) (u := .ins (c.cls C0) dx' (putF f y ((c.lay C0).zip us'))) h1 how hσ ⟨dx', zs, by rw [upd_same, e3], hz⟩
        refine ⟨a, c.cls C0, dx', _, hv3, hH', by rw [hK]; exact hC, by rw [hK]; exact hn, by rw [List.length_zip]; omega, ?_⟩
        exact p1 F2 σ _ (t2.trans t3) s3
end
end PV

namespace PV
open PySem PySem.Spec L2 PyProof.Rows

/-! ### C(e, ..): an own object is made; its __init__ may raise -/
def mkR (C : Nat) (Fi : FN) (rs : List Rs) : M Rs := fun π => match vals rs with
  | none => .bad
  | some ps => match Fi (.loan (.obj C []) :: ps.map .val) with
    | .ok (.val .non) (.loan (.obj C' vs) :: _) => if C' = C then .ok (.own (.obj C vs)) π else .bad
    | .exc C' qs _ => .exc C' qs π
    | _ => .bad
def mkF (C : Nat) (Fi : FN) (fa : M (List Rs)) : M Rs := fun π => (fa π).bind (mkR C Fi)
section
variable {c : Ctx} {F H : Hp} {π : En} {σ : L2.St} {x dx : Addr} {C : Nat} {ps : List P} {vs : List V}
theorem mk_sr (l : Le F H) (hx : H x = none) (hd : H dx = none) (hne : dx ≠ x) (r : Rps c F ps vs) :
    SR c F (.loan (.obj C []) :: ps.map .val) ((V.ref x :: vs).map some) (L2.upd (L2.upd H dx (.own x)) x (.ins (c.cls C) dx [])) ∧ noOwn (.loan (.obj C []) :: ps.map .val) ∧
      (∀ a, Own (.loan (.obj C []) :: ps.map .val) ((V.ref x :: vs).map some) a → a = x) := by
  have get : ∀ (i : Nat) (s : Sl), (Sl.loan (.obj C []) :: ps.map .val)[i]? = some s → (i = 0 ∧ s = .loan (.obj C [])) ∨ ∃ j p, i = j + 1 ∧ s = .val p ∧ ps[j]? = some p := fun i s e => by
    cases i with
    | zero => left; simp at e; exact ⟨rfl, e.symm⟩
    | succ j =>
      right
      rw [List.getElem?_cons_succ, List.getElem?_map] at e
      cases q : ps[j]? with
      | none => rw [q] at e; cases e
      | some p => rw [q] at e; cases e; exact ⟨j, p, rfl, rfl, q⟩
  refine ⟨⟨(l.updR _ (l.gone hd)).updR _ (l.gone hx), by simp [rps_len r], fun i p e => ?_, fun i s o e1 e2 => ?_, fun i j s s' o o' a e1 e2 e3 e4 _ _ => ?_⟩, fun i o e => ?_, fun a ⟨i, s, o, e1, e2, e3⟩ => ?_⟩
  · rcases get i _ e with ⟨_, q⟩ | ⟨j, q, e1, e2, e3⟩
    · cases q
    · cases e2
      obtain ⟨v, h1, h2⟩ := rps_get r e3
      subst e1
      exact ⟨v, by simp [h1], h2⟩
  · rcases get i _ e1 with ⟨h0, q⟩ | ⟨j, q, _, e4, _⟩
    · subst q h0
      cases e2
      exact ⟨x, rfl, l.gone hx, dx, [], by rw [upd_same]; simp, rps_nil⟩
    · subst e4; cases e2
  · rcases get i _ e1 with ⟨h0, q⟩ | ⟨_, q, _, h4, _⟩
    · rcases get j _ e3 with ⟨h1, _⟩ | ⟨_, q2, _, h4, _⟩
      · rw [h0, h1]
      · subst h4; cases e4
    · subst h4; cases e2
  · rcases get i _ e with ⟨_, q⟩ | ⟨_, q, _, h4, _⟩
    · cases q
    · cases h4
  · rcases get i _ e1 with ⟨h0, q⟩ | ⟨_, q, _, h4, _⟩
    · subst h0
      simp at e3
      exact e3.symm
    · subst h4; cases e2
theorem mk_gr {F' H' : Hp} {πs' : List Sl} (l : Le F H) (hx : H x = none) (hd : H dx = none) (hne : dx ≠ x) (r : Rps c F ps vs)
    (t : Tr F (.loan (.obj C []) :: ps.map .val) ((V.ref x :: vs).map some) (L2.upd (L2.upd H dx (.own x)) x (.ins (c.cls C) dx [])) F' πs' ((V.ref x :: vs).map some) H') (s' : SR c F' πs' ((V.ref x :: vs).map some) H') : Gr F H F' H' := by
  obtain ⟨_, _, ow⟩ := mk_sr (c := c) (C := C) l hx hd hne r
  refine ⟨t.le, s'.le, fun a o e => t.keep a o (by rw [upd_ne (ne_of_none e hx), upd_ne (ne_of_none e hd)]; exact e) fun z => ?_, fun a e => ?_⟩
  · have := ow a z
    subst this
    rw [hx] at e; cases e
  · rcases t.new a e with q | q | q
    · exact .inl q
    · right
      by_cases h1 : a = x
      · rw [h1]; exact hx
      · rw [upd_ne h1] at q
        by_cases h2 : a = dx
        · rw [h2]; exact hd
        · rw [upd_ne h2] at q; exact q
    · right
      rw [ow a q]; exact hx
end
section
variable {X : Cx} {k : Nat} {C f : Addr} {fd : FuncData} {ps : List Str} {sp : Sp} {E : L2.St → XK} {t : TA} {x : Str} {p pos : Pos} {e : Expr} {es : List Expr}
/-- the reading of C(e, ..), what is wished of its exceptions hangs on the slots -/
def tMakeS (C : Addr) (sp : Sp) (E : L2.St → XK) (t : TA) : TE := fun σ H Q => t σ H fun vs H1 => ∀ a dx, H1 a = none → H1 dx = none → dx ≠ a → sp (.ref a :: vs) (L2.upd (L2.upd H1 dx (.own a)) a (.ins C dx [])) (fun v H2 => v = .non ∧ Q (.ref a) H2) (E σ)
theorem pe_makeG (Mm : Mk X.K C f) (G : FnG X.prog X.w X.K X.mg X.base k f fd ps sp) (hgd : X.A.guards = some []) (hr : Room (k + 1) X.A) (hg : Gl X x) (hm : X.mg x = some (.ref C)) (hb : Binds X.K fd ps []) (hx : ∀ σ, PassesAt (L2.CX X.prog X.w) X σ (E σ))
    (ha : PA X (e :: es) t) (hdb : (x == ("__debug__" : Str)) = false := by decide) (he : starEach (e :: es) X.env = (false, eval e X.env) :: starEach es X.env := by rfl) (hpl : (backTo pos (starEach es X.env)).any (·.1) = false := by rfl) :
    PE X (.Call (.Name x p) (e :: es) [] pos) (tMakeS C sp E t) := by
  refine ⟨fun pins s σ H Q I h => wpAny_Call_Name_kw (ld_glob I hg hm (PySem.W.callWith_K (h₀ := X.base) I.ok.mod.kin Mm.kp (thn (ha.run pos pins s σ H _ I h) fun us s1 ⟨vs, H1, I1, r, q⟩ => ⟨I1.kIn, ?_⟩) he hpl) hdb)⟩
  have hq := q (s1.heap.objs.size + 1) s1.heap.objs.size (I1.hok.fresh (Nat.le_succ _)) (I1.hok.fresh (Nat.le_refl _)) (Nat.ne_of_lt (Nat.lt_succ_self _))
  have I2 := Inv.made (C := C) I1
  have r2 : Vals (V.ref (s1.heap.objs.size + 1) :: vs) (Value.ref (s1.heap.objs.size + 1) :: us) := .cons rfl r
  have hl : (Value.ref (s1.heap.objs.size + 1) :: us).length = ps.length := by rw [← r2.length]; exact G.len _ _ _ _ hq
  have b := hb _ (Value.ref (s1.heap.objs.size + 1) :: us) I2.kIn (by rw [List.append_nil]; exact hl)
  rw [List.append_nil] at b
  refine wpAny_call (make_map (f := f) I1.kIn Mm.makes Mm.init (beq_iff_eq.mp Mm.fn) (codeAny_mono (G.run _ X.stack _ _ ⟨Value.ref (s1.heap.objs.size + 1) :: us, []⟩ (Value.ref (s1.heap.objs.size + 1) :: us) _ _ (E σ) ?_ (hr.make C us []) (I2.env0.make C us []) b r2 hq) fun r s' hq' => ?_))
  · first | exact hgd | (show pushGuards _ X.A.guards = some []; rw [hgd]; first | rfl | simp [Code.guards, Code.isGuard, guardIds, pushGuards])
  · cases r with
    | error e => exact hx σ pins _ _ e s' I2 hq'
    | ok fl =>
      cases fl with
      | ret u =>
        obtain ⟨v, H', I3, rv, ev, q3⟩ := I2.after hq'
        subst ev
        exact ⟨rv, ⟨V.ref (s1.heap.objs.size + 1), H', I3, rfl, q3⟩⟩
      | next => exact False.elim hq'
      | brk => exact False.elim hq'
      | cont => exact False.elim hq'
end
section
variable {X : Cx} {c : Ctx} {w : Wi} {k n C : Nat} {f : Addr} {fd : FuncData} {ps : List Str} {Fi : FN} {x : Str} {p pos : Pos} {e : Expr} {es : List Expr} {fa : M (List Rs)}
theorem p_mk (Mm : Mk X.K (c.cls C) f) (G : FnG X.prog X.w X.K X.mg X.base k f fd ps (spF c (n + 1) Fi)) (hgd : X.A.guards = some []) (hr : Room (k + 1) X.A) (hg : Gl X x) (hm : X.mg x = some (.ref (c.cls C))) (hb : Binds X.K fd ps []) (tk : Takes X w.W)
    (ha : PA X (e :: es) (tR c w fa)) (hlen : ∀ π rs π', fa π = .ok rs π' → rs.length = n)
    (hdb : (x == ("__debug__" : Str)) = false := by decide) (he : starEach (e :: es) X.env = (false, eval e X.env) :: starEach es X.env := by rfl) (hpl : (backTo pos (starEach es X.env)).any (·.1) = false := by rfl) :
    PE X (.Call (.Name x p) (e :: es) [] pos) (tE c w (mkF C Fi fa)) :=
  pe_weak (pe_makeG Mm G hgd hr hg hm hb (fun σ => passAt tk σ) ha hdb he hpl) fun σ H Q ⟨F, π, gg, s, po⟩ => by
    refine ⟨F, π, gg, s, ?_⟩
    unfold mkF at po
    cases e0 : fa π with
    | bad => rw [e0] at po; exact po
    | exc C' qs π1 => rw [e0] at po; exact po
    | ok rs π1 =>
      rw [e0] at po
      intro F1 H1 t1 s1 vs hv a dx hna hnd hne
      have po1 := Po.from (show Po c w.W F π σ H (mkR C Fi rs π1) _ from po) t1
      unfold mkR at po1
      cases e1 : vals rs with
      | none => rw [e1] at po1; exact po1.elim
      | some qs =>
        simp only [e1] at po1
        have rv := vals_rps hv e1
        have hql : qs.length = n := by
          have h1 := rps_len rv
          have h2 := rrs_len hv
          have h3 := hlen _ _ _ e0
          omega
        obtain ⟨sr, hno, how⟩ := mk_sr (c := c) (C := C) s1.le hna hnd hne rv
        refine ⟨F1, .loan (.obj C []) :: qs.map .val, by simp [hql], hno, sr, ?_⟩
        cases e2 : Fi (.loan (.obj C []) :: qs.map .val) with
        | bad => rw [e2] at po1; exact po1
        | exc C' us as' =>
          simp only [e2] at po1
          intro F2 H2 d t2 s2 xd
          have gr := mk_gr s1.le hna hnd hne rv t2 s2
          exact po1 F2 H2 d gr.tr (gr.sr s1) xd
        | ok r as' =>
          intro v F2 H2 t2 s2 hrc
          have gr := mk_gr s1.le hna hnd hne rv t2 s2
          rw [e2] at po1
          split at po1
          · rename_i C' us as2 e3
            cases e3
            by_cases hCC : C' = C
            case neg => rw [if_neg hCC] at po1; exact po1.elim
            subst hCC
            rw [if_pos rfl] at po1
            obtain ⟨a2, h1, h2, h3⟩ := s2.ow 0 _ _ rfl rfl
            have ha2 : a2 = a := by simp at h1; exact h1.symm
            subst ha2
            refine ⟨rp_non (show Rp c F2 .non v from hrc), ?_⟩
            refine po1 F2 H2 gr.tr (gr.sr s1) _ ?_
            refine RR.base (t := t1) ?_
            refine ⟨a2, rfl, h2, fun z => ?_, h3, .inl hna⟩
            obtain ⟨u, hu⟩ := own_some s1 z
            rw [hna] at hu; cases hu
          · rename_i e3; cases e3
          · exact po1.elim
end
end PV

namespace PV
open PySem PySem.Spec L2 PyProof.Rows

/-! ### a module's constant, read in a def -/
section
variable {X : Cx} {c : Ctx} {w : Wi} {x : Str} {pos : Pos} {i : Int} {u : Value}
theorem p_gint (hg : Gl X x) (hm : X.mg x = some u) (r : L2.RelV (.int i) u) (hd : (x == ("__debug__" : Str)) = false := by decide) : PE X (.Name x pos) (tE c w (cF (.int i))) :=
  pe_weak (pe_glob (v := .int i) hg hm r hd) (tC_of fun _ => mk_int)
end

/-! ### o.m(e, ..) where the def's own reading asks no guards -/
section
variable {X : Cx} {k : Nat} {C f : Addr} {fd : FuncData} {ps : List Str} {sp : Sp} {E : L2.St → XK} {ta : TE} {t : TA} {m : Str} {apos pos : Pos} {o e : Expr} {es : List Expr}
def tMethS (C : Addr) (m : Str) (sp : Sp) (E : L2.St → XK) (ta : TE) (t : TA) : TE := fun σ H Q => ta σ H fun x H1 => ∃ a dx fs, x = .ref a ∧ H1 a = some (.ins C dx fs) ∧ fs.lookup m = none ∧
  t σ H1 fun vs H2 => sp (x :: vs) H2 Q (E σ)
theorem pe_methG {pl : Sem Bool} (he : PE X o ta) (cl : Cls X.K C) (hm : Meth X.K C m f) (G : FnG X.prog X.w X.K X.mg X.base k f fd ps sp) (hgd : X.A.guards = some []) (hr : Room k X.A) (hb : Binds X.K fd ps []) (hx : ∀ σ, PassesAt (L2.CX X.prog X.w) X σ (E σ)) (ha : PA X (e :: es) t)
    (hst : starEach (e :: es) X.env = (false, eval e X.env) :: starEach es X.env := by rfl) (hpl : (backTo pos (starEach es X.env)).any (·.1) = false := by rfl)
    (ht : eval (.Call (.Attribute o m apos) (e :: es) [] pos) X.env = (do
      let ov ← eval o X.env
      standAt apos.atName
      let (f, first) ← holding [ov] (getMethod ov m pl)
      callWith pos f first (backTo pos (starEach (e :: es) X.env)) (backToKw pos (keywordEach [] X.env))) := by rfl) :
    PE X (.Call (.Attribute o m apos) (e :: es) [] pos) (tMethS C m sp E ta t) := by
  refine ⟨fun pins s σ H Q I h => ?_⟩
  refine PySem.W.methodCall_KW (pl := pl) (thn (he.run pins s σ H _ I h) fun u s1 ⟨x, H1, I1, rx, a, dx, fs, ex, ea, l, q⟩ => ?_) ht
  subst ex
  obtain rfl : u = Value.ref a := rx
  refine getmeth_ok I1 ea cl hm l ?_
  refine PySem.W.callWith_K (first := [.ref a]) (h₀ := X.base) I.ok.mod.kin hm.kp (thn (ha.run pos pins s1 σ H1 _ I1 q) fun us s2 ⟨vs, H2, I2, r, q2⟩ => ⟨I2.kIn, ?_⟩) hst hpl
  exact run_fnG (us := .ref a :: us) (vs := .ref a :: vs) G hgd hr hb (hx σ) I2 (.cons rfl r) q2
theorem pe_methG0 {pl : Sem Bool} (he : PE X o ta) (cl : Cls X.K C) (hm : Meth X.K C m f) (G : FnG X.prog X.w X.K X.mg X.base k f fd ps sp) (hgd : X.A.guards = some []) (hr : Room k X.A) (hb : Binds X.K fd ps []) (hx : ∀ σ, PassesAt (L2.CX X.prog X.w) X σ (E σ))
    (ht : eval (.Call (.Attribute o m apos) [] [] pos) X.env = (do
      let ov ← eval o X.env
      standAt apos.atName
      let (f, first) ← holding [ov] (getMethod ov m pl)
      callWith pos f first (backTo pos (starEach [] X.env)) (backToKw pos (keywordEach [] X.env))) := by rfl) :
    PE X (.Call (.Attribute o m apos) [] [] pos) (tMethS C m sp E ta tNil) := by
  refine ⟨fun pins s σ H Q I h => ?_⟩
  refine PySem.W.methodCall_KW (pl := pl) (thn (he.run pins s σ H _ I h) fun u s1 ⟨x, H1, I1, rx, a, dx, fs, ex, ea, l, q⟩ => ?_) ht
  subst ex
  obtain rfl : u = Value.ref a := rx
  refine getmeth_ok I1 ea cl hm l ?_
  exact PySem.W.callWith_K0 (first := [.ref a]) I1.kIn hm.kp (run_fnG (us := [.ref a]) (vs := [.ref a]) G hgd hr hb (hx σ) I1 (.cons rfl .nil) q)
end

/-! ### o.m(e, ..) as a combinator -/
def methF (C0 : Nat) (Fm : FN) (f : M Rs) (fa : M (List Rs)) : M Rs := fun π => (f π).bind fun r π1 => match rdP π1 r with
  | some (.obj C _) => if C = C0 then (fa π1).bind fun rs π2 => callR Fm (r :: rs) π2 else .bad
  | _ => .bad
theorem zip_none {m : Str} : ∀ {l : List Str} (vs : List V), l.all (fun y => !(m == y)) = true → (l.zip vs).lookup m = none
  | [], _, _ => rfl
  | _ :: _, [], _ => rfl
  | x :: l, v :: vs, h => by
    rw [List.all_cons, Bool.and_eq_true] at h
    rw [List.zip_cons_cons, List.lookup_cons]
    cases z : m == x with
    | true => rw [z] at h; exact absurd h.1 (by decide)
    | false => exact zip_none vs h.2
section
variable {X : Cx} {c : Ctx} {w : Wi} {k n C0 : Nat} {f : Addr} {fd : FuncData} {ps : List Str} {Fm : FN} {m : Str} {apos pos : Pos} {o e : Expr} {es : List Expr} {fo : M Rs} {fa : M (List Rs)}
theorem meth_weak {σ : L2.St} {H : Hp} {Q : VK} (hl : (c.lay C0).all (fun y => !(m == y)) = true) (hlen : ∀ π rs π', fa π = .ok rs π' → rs.length + 1 = n) (h : tE c w (methF C0 Fm fo fa) σ H Q) :
    tMethS (c.cls C0) m (spF c n Fm) (fun σ cls d H' => w.W cls d σ H') (tE c w fo) (tR c w fa) σ H Q := by
  obtain ⟨F, π, gg, s, po⟩ := h
  refine ⟨F, π, gg, s, (Po.split po).mono fun r1 π1 F1 H1 t1 s1 p1 x hx => ?_⟩
  cases e1 : rdP π1 r1 with
  | none => simp only [e1] at p1; exact p1.elim
  | some q =>
    simp only [e1] at p1
    cases q with
    | obj C vs =>
      by_cases z : C = C0
      · subst z
        simp only [if_pos] at p1
        obtain ⟨a, dx, us, rfl, h1, h2⟩ := (hx.rb s1 e1).obj s1.le
        refine ⟨a, dx, _, rfl, h1, zip_none us hl, F1, π1, w.mono _ _ t1.le gg, s1, ?_⟩
        cases e2 : fa π1 with
        | bad => rw [e2] at p1; exact p1
        | exc C qs π2 => rw [e2] at p1; exact p1
        | ok rs π2 =>
          rw [e2] at p1
          intro F2 H2 t2 s2 xs hxs
          refine call_post (π0 := π) (H0 := H) (rs := r1 :: rs) s2 ⟨.ref a, xs, rfl, hx.step t2, hxs.base t1⟩ (hlen _ _ _ e2) (Po.from p1 t2) fun r π3 F3 H3 v t3 kk hr3 => kk v ((hr3.base t2).base t1)
      · simp only [if_neg z] at p1; exact p1.elim
    | _ => exact p1.elim
theorem p_meth {pl : Sem Bool} (he : PE X o (tE c w fo)) (cl : Cls X.K (c.cls C0)) (hm : Meth X.K (c.cls C0) m f) (G : FnG X.prog X.w X.K X.mg X.base k f fd ps (spF c n Fm)) (hgd : X.A.guards = some []) (hr : Room k X.A) (hb : Binds X.K fd ps []) (tk : Takes X w.W) (ha : PA X (e :: es) (tR c w fa))
    (hl : (c.lay C0).all (fun y => !(m == y)) = true) (hlen : ∀ π rs π', fa π = .ok rs π' → rs.length + 1 = n)
    (hst : starEach (e :: es) X.env = (false, eval e X.env) :: starEach es X.env := by rfl) (hpl : (backTo pos (starEach es X.env)).any (·.1) = false := by rfl)
    (ht : eval (.Call (.Attribute o m apos) (e :: es) [] pos) X.env = (do
      let ov ← eval o X.env
      standAt apos.atName
      let (f, first) ← holding [ov] (getMethod ov m pl)
      callWith pos f first (backTo pos (starEach (e :: es) X.env)) (backToKw pos (keywordEach [] X.env))) := by rfl) :
    PE X (.Call (.Attribute o m apos) (e :: es) [] pos) (tE c w (methF C0 Fm fo fa)) :=
  pe_weak (pe_methG (pl := pl) he cl hm G hgd hr hb (fun σ => passAt tk σ) ha hst hpl ht) fun _ _ _ h => meth_weak hl hlen h
theorem tmeth_nil {σ : L2.St} {H : Hp} {Q : VK} {C : Addr} {sp : Sp} {E : L2.St → XK} {ta : TE} (mono : ∀ σ H (Q Q' : VK), (∀ v H, Q v H → Q' v H) → ta σ H Q → ta σ H Q') (h : tMethS C m sp E ta (tR c w nilF) σ H Q) : tMethS C m sp E ta tNil σ H Q :=
  mono σ H _ _ (fun x H1 ⟨a, dx, fs, e1, e2, e3, F, π, gg, s, po⟩ => ⟨a, dx, fs, e1, e2, e3, po F H1 .refl s [] rfl⟩) h
theorem te_mono {fo : M Rs} : ∀ σ H (Q Q' : VK), (∀ v H, Q v H → Q' v H) → tE c w fo σ H Q → tE c w fo σ H Q' := fun σ H Q Q' k ⟨F, π, gg, s, po⟩ =>
  ⟨F, π, gg, s, po.mono fun r π1 F1 H1 t1 s1 p1 v hv => k v H1 (p1 v hv)⟩
theorem p_meth0 {pl : Sem Bool} (he : PE X o (tE c w fo)) (cl : Cls X.K (c.cls C0)) (hm : Meth X.K (c.cls C0) m f) (G : FnG X.prog X.w X.K X.mg X.base k f fd ps (spF c 1 Fm)) (hgd : X.A.guards = some []) (hr : Room k X.A) (hb : Binds X.K fd ps []) (tk : Takes X w.W)
    (hl : (c.lay C0).all (fun y => !(m == y)) = true)
    (ht : eval (.Call (.Attribute o m apos) [] [] pos) X.env = (do
      let ov ← eval o X.env
      standAt apos.atName
      let (f, first) ← holding [ov] (getMethod ov m pl)
      callWith pos f first (backTo pos (starEach [] X.env)) (backToKw pos (keywordEach [] X.env))) := by rfl) :
    PE X (.Call (.Attribute o m apos) [] [] pos) (tE c w (methF C0 Fm fo nilF)) :=
  pe_weak (pe_methG0 (pl := pl) he cl hm G hgd hr hb (fun σ => passAt tk σ) ht) fun _ _ _ h => tmeth_nil te_mono (meth_weak hl (fun _ _ _ e => by cases e; rfl) h)
end
end PV
namespace PV
open PySem PySem.Spec L2 PyProof.Rows
/-! ### f() -/
section
variable {X : Cx} {c : Ctx} {w : Wi} {k : Nat} {f : Addr} {fd : FuncData} {ps : List Str} {sp : Sp} {E : L2.St → XK} {Fn : FN} {x : Str} {p pos : Pos}
theorem pe_call0G (G : FnG X.prog X.w X.K X.mg X.base k f fd ps sp) (hgd : X.A.guards = some []) (hr : Room k X.A) (hg : Gl X x) (hm : X.mg x = some (.ref f)) (hk : PySem.W.keepIn X.K (.ref f) = true) (hb : Binds X.K fd ps []) (hx : ∀ σ, PassesAt (L2.CX X.prog X.w) X σ (E σ))
    (hdb : (x == ("__debug__" : Str)) = false := by decide) : PE X (.Call (.Name x p) [] [] pos) (tCallS sp E tNil) :=
  ⟨fun pins s σ H Q I h => wpAny_Call_Name_kw (ld_glob I hg hm (PySem.W.callWith_K0 I.kIn hk (run_fnG (us := []) (vs := []) G hgd hr hb (hx σ) I .nil h)) hdb)⟩
theorem p_call0 (G : FnG X.prog X.w X.K X.mg X.base k f fd ps (spF c 0 Fn)) (hgd : X.A.guards = some []) (hr : Room k X.A) (hg : Gl X x) (hm : X.mg x = some (.ref f)) (hk : PySem.W.keepIn X.K (.ref f) = true) (hb : Binds X.K fd ps []) (tk : Takes X w.W)
    (hdb : (x == ("__debug__" : Str)) = false := by decide) : PE X (.Call (.Name x p) [] [] pos) (tE c w (callF Fn nilF)) :=
  pe_weak (pe_call0G G hgd hr hg hm hk hb (fun σ => passAt tk σ) hdb) fun σ H Q ⟨F, π, gg, s, po⟩ => by
    refine call_post (rs := []) (vs := []) (π0 := π) (H0 := H) s rfl rfl (show Po c w.W F π σ H (callR Fn [] π) _ from po) fun r π2 F2 H2 v t2 kk hr2 => kk v hr2
end
end PV
namespace PV
open PySem PySem.Spec L2 PyProof.Rows
theorem p_gintE {X : Cx} {c : Ctx} {w : Wi} {x : Str} {pos : Pos} {i : Int} (hg : Gl X x) (h : ∃ t, X.mg x = some (.int i t)) (hd : (x == ("__debug__" : Str)) = false := by decide) : PE X (.Name x pos) (tE c w (cF (.int i))) := by
  obtain ⟨t, h⟩ := h
  exact p_gint hg h ⟨t, rfl⟩ hd
end PV

namespace PV
open PySem PySem.Spec L2 PyProof.Rows

/-! ### short forms: methods and makings -/
/-- class number C0's method m of n parameters (self among them) computes Fn -/
structure Cm (P : Program) (w : World) (K : PySem.W.Frag) (mg : Str → Option Value) (base : Heap) (c : Ctx) (k C0 : Nat) (m : Str) (n : Nat) (Fn : FN) : Prop where
  ex : ∃ (f : Addr) (fd : FuncData) (ps : List Str), FnG P w K mg base k f fd ps (spF c n Fn) ∧ Meth K (c.cls C0) m f ∧ Binds K fd ps []
/-- class number C0, named x, is made by n values (self not among them); its __init__ computes Fi -/
structure Cc (P : Program) (w : World) (K : PySem.W.Frag) (mg : Str → Option Value) (base : Heap) (c : Ctx) (k C0 : Nat) (x : Str) (n : Nat) (Fi : FN) : Prop where
  ex : ∃ (f : Addr) (fd : FuncData) (ps : List Str), FnG P w K mg base k f fd ps (spF c (n + 1) Fi) ∧ Mk K (c.cls C0) f ∧ mg x = some (.ref (c.cls C0)) ∧ Binds K fd ps []
/-- where the method m stands -/
structure AtM (K : PySem.W.Frag) (C : Addr) (m qual : Str) (st : Stmt) (ps : List Str) : Prop where
  ex : ∃ (f : Addr) (fd : FuncData), Fun K m qual st f fd ∧ Meth K C m f ∧ Binds K fd ps []
structure AtI (K : PySem.W.Frag) (mg : Str → Option Value) (C : Addr) (x qual : Str) (st : Stmt) (ps : List Str) : Prop where
  ex : ∃ (f : Addr) (fd : FuncData), Fun K "__init__" qual st f fd ∧ Mk K C f ∧ mg x = some (.ref C) ∧ Binds K fd ps []
section
variable {P : Program} {w : World} {K : PySem.W.Frag} {mg : Str → Option Value} {base : Heap} {c : Ctx} {k C0 : Nat} {x m qual : Str} {st : Stmt} {N ps : List Str} {body : M Fl} {q n : Nat}
theorem cm_of (D : AtM K (c.cls C0) m qual st ps) (S : FnScope N ps (defScope st)) (hn : ps.length = n) (hm : N.length - ps.length = q)
    (hb : ∀ (f : Addr) (cdv : Value) (A : Around) (outer : List Env) (s : Shared) (H : Hp) (E : XK), A.guards = some [] → Room k (A.deeper (envOfC qual (defScope st) s.heap.objs.size f cdv)) →
      PSs (cxOf (L2.CX P w) P w K mg base N qual (defScope st) f cdv A outer s H E) (defBody st) (tS c (wE E) body)) : Cm P w K mg base c (k + 1) C0 m n (fnF q body) := by
  subst hn hm
  obtain ⟨f, fd, F, hm, hb2⟩ := D.ex
  exact ⟨f, fd, ps, fn_okG F S fun cdv A outer s H E hg hr => hb f cdv A outer s H E hg hr, hm, hb2⟩
theorem cc_of (D : AtI K mg (c.cls C0) x qual st ps) (S : FnScope N ps (defScope st)) (hn : ps.length = n + 1) (hm : N.length - ps.length = q)
    (hb : ∀ (f : Addr) (cdv : Value) (A : Around) (outer : List Env) (s : Shared) (H : Hp) (E : XK), A.guards = some [] → Room k (A.deeper (envOfC qual (defScope st) s.heap.objs.size f cdv)) →
      PSs (cxOf (L2.CX P w) P w K mg base N qual (defScope st) f cdv A outer s H E) (defBody st) (tS c (wE E) body)) : Cc P w K mg base c (k + 1) C0 x n (fnF q body) := by
  subst hm
  obtain ⟨f, fd, F, hm, hx, hb2⟩ := D.ex
  exact ⟨f, fd, ps, hn ▸ fn_okG F S fun cdv A outer s H E hg hr => hb f cdv A outer s H E hg hr, hm, hx, hb2⟩
end
section
variable {X : Cx} {c : Ctx} {w : Wi} {j k n C0 : Nat} {Fm : FN} {x m : Str} {p apos pos : Pos} {o e : Expr} {es : List Expr} {fo : M Rs} {fa : M (List Rs)}
theorem p_cm {pl : Sem Bool} (C : Cm X.prog X.w X.K X.mg X.base c j C0 m n Fm) (cl : Cls X.K (c.cls C0)) (hj : j ≤ k) (hgd : X.A.guards = some []) (hr : Room k X.A) (tk : Takes X w.W) (he : PE X o (tE c w fo)) (ha : PA X (e :: es) (tR c w fa))
    (hl : (c.lay C0).all (fun y => !(m == y)) = true) (hlen : ∀ π rs π', fa π = .ok rs π' → rs.length + 1 = n)
    (hst : starEach (e :: es) X.env = (false, eval e X.env) :: starEach es X.env := by rfl) (hpl : (backTo pos (starEach es X.env)).any (·.1) = false := by rfl)
    (ht : eval (.Call (.Attribute o m apos) (e :: es) [] pos) X.env = (do
      let ov ← eval o X.env
      standAt apos.atName
      let (f, first) ← holding [ov] (getMethod ov m pl)
      callWith pos f first (backTo pos (starEach (e :: es) X.env)) (backToKw pos (keywordEach [] X.env))) := by rfl) :
    PE X (.Call (.Attribute o m apos) (e :: es) [] pos) (tE c w (methF C0 Fm fo fa)) := by
  obtain ⟨f, fd, ps, G, hm, hb⟩ := C.ex
  exact p_meth (pl := pl) he cl hm G hgd (hr.mono hj) hb tk ha hl hlen hst hpl ht
theorem p_cm0 {pl : Sem Bool} (C : Cm X.prog X.w X.K X.mg X.base c j C0 m 1 Fm) (cl : Cls X.K (c.cls C0)) (hj : j ≤ k) (hgd : X.A.guards = some []) (hr : Room k X.A) (tk : Takes X w.W) (he : PE X o (tE c w fo))
    (hl : (c.lay C0).all (fun y => !(m == y)) = true)
    (ht : eval (.Call (.Attribute o m apos) [] [] pos) X.env = (do
      let ov ← eval o X.env
      standAt apos.atName
      let (f, first) ← holding [ov] (getMethod ov m pl)
      callWith pos f first (backTo pos (starEach [] X.env)) (backToKw pos (keywordEach [] X.env))) := by rfl) :
    PE X (.Call (.Attribute o m apos) [] [] pos) (tE c w (methF C0 Fm fo nilF)) := by
  obtain ⟨f, fd, ps, G, hm, hb⟩ := C.ex
  exact p_meth0 (pl := pl) he cl hm G hgd (hr.mono hj) hb tk hl ht
theorem p_cc {Fi : FN} (C : Cc X.prog X.w X.K X.mg X.base c j C0 x n Fi) (hj : j ≤ k) (hgd : X.A.guards = some []) (hr : Room (k + 1) X.A) (tk : Takes X w.W) (hg : Gl X x) (ha : PA X (e :: es) (tR c w fa)) (hlen : ∀ π rs π', fa π = .ok rs π' → rs.length = n)
    (hdb : (x == ("__debug__" : Str)) = false := by decide) (he : starEach (e :: es) X.env = (false, eval e X.env) :: starEach es X.env := by rfl) (hpl : (backTo pos (starEach es X.env)).any (·.1) = false := by rfl) :
    PE X (.Call (.Name x p) (e :: es) [] pos) (tE c w (mkF C0 Fi fa)) := by
  obtain ⟨f, fd, ps, G, hm, hx, hb⟩ := C.ex
  exact p_mk hm G hgd (hr.mono (Nat.succ_le_succ hj)) hg hx hb tk ha hlen hdb he hpl
end
end PV

namespace PV
open PySem PySem.Spec L2 PyProof.Rows

/-! ### for k, x in enumerate(xs) -/
def enumP : Nat → List P → List P
  | _, [] => []
  | k, p :: ps => .tup [.int k, p] :: enumP (k + 1) ps
theorem enumP_len : ∀ (k : Nat) (ps : List P), (enumP k ps).length = ps.length
  | _, [] => rfl
  | k, _ :: ps => by unfold enumP; rw [List.length_cons, List.length_cons, enumP_len (k + 1) ps]
theorem enumP_get : ∀ (k : Nat) (ps : List P) (i : Nat) (q : P), (enumP k ps)[i]? = some q → ∃ p, ps[i]? = some p ∧ q = .tup [.int ((k + i : Nat) : Int), p]
  | _, [], i, q, e => by cases i <;> cases e
  | k, p :: ps, 0, q, e => by cases e; exact ⟨p, rfl, rfl⟩
  | k, p :: ps, i + 1, q, e => by
    obtain ⟨p', h1, h2⟩ := enumP_get (k + 1) ps i q e
    exact ⟨p', h1, by rw [h2]; congr 3; omega⟩
def enumR (ps : List P) : M (List P) := fun π => match ps with
  | [.lst qs] => if qs.length ≤ 1000000 then .ok (enumP 0 qs) π else .bad
  | _ => .bad
def enumF (fa : M (List P)) : M (List P) := fun π => (fa π).bind enumR
section
variable {c : Ctx} {F : Hp} {a : Addr} {vs : List V} {ps : List P}
theorem wk_enum (h : SqL c.K F a vs) (r : Rps c F ps vs) : Wk c F (Ite c.K a) (enumP 0 ps) where
  stop := fun G l => ⟨vs, l.sqL h, by rw [enumP_len, rps_len r]; exact Nat.le_refl _⟩
  go := fun i G l hi => ⟨vs, vs[i]'(by rw [enumP_len] at hi; rw [← rps_len r]; exact hi), l.sqL h, List.getElem?_eq_getElem _⟩
  yld := fun i q F1 G x G' l1 l2 e y => by
    obtain ⟨T, y1, rfl, hT, rfl, hy⟩ := y
    obtain ⟨p, e1, rfl⟩ := enumP_get 0 ps i q e
    have rp := Rp.mono l1 _ _ (get_rp r e1 (hy vs ((l1.trans l2).sqL h)))
    have gr := gr_tup (vs := [.int ((i : Nat) : Int), y1]) l2 hT
    refine ⟨_, gr, ?_⟩
    unfold Rp
    refine ⟨T, _, rfl, .of (by rw [upd_same]), rps_cons ?_ (rps_cons (Rp.mono gr.le _ _ rp) rps_nil)⟩
    have z : ((0 + i : Nat) : Int) = (i : Int) := by simp
    rw [z]
    exact mk_int
end
section
variable {X : Cx} {c : Ctx} {w : Wi} {e : Expr} {p pos tpos : Pos} {elts : List Expr} {kk : Nat} {fa : M (List P)}
theorem i_enum (hK : X.K = c.K) (hg : Gl X "enumerate") (hm : X.mg "enumerate" = none) (ha : PA X [e] (tAs c w fa)) (hs : starEach [e] X.env = [(false, eval e X.env)] := by rfl) :
    PI X (.Tuple elts kk tpos) (.Call (.Name "enumerate" p) [e] [] pos) (tI c w (enumF fa)) :=
  pi_weak (pi_enum hg hm ha hs) fun σ H R ⟨F, π, gg, s, po⟩ => by
    refine ⟨F, π, gg, s, (Po.split po).mono fun ps π1 F1 H1 t1 s1 p1 vs hr => ?_⟩
    rw [hK]
    unfold enumR at p1
    split at p1
    · rename_i qs
      obtain ⟨v, us, rfl, h1, h2⟩ := rps_inv hr
      rw [rps_nil_inv h2]
      obtain ⟨a, xs, rfl, h3, h4⟩ := rp_lst h1
      by_cases z : qs.length ≤ 1000000
      · rw [if_pos z] at p1
        exact ⟨a, xs, rfl, .of (s1.le.lst h3), p1 F1 H1 .refl s1 _ (wk_enum (.of h3) h4) (by rw [enumP_len, sizeLine_eq]; omega)⟩
      · rw [if_neg z] at p1; exact p1.elim
    · exact p1.elim
end
end PV

namespace PV
open PySem PySem.Spec L2 PyProof.Rows

/-! ### try: .. with several clauses, each named -/
def wAsM (K : PySem.W.Frag) (Wout : WX) (D : Ends) : List (Value × Nat × (Addr → Value → Option Addr → TS)) → WX
  | [] => Wout
  | (c, i, ts) :: r => wAs K c i ts (wAsM K Wout D r) D
inductive HdsN (X : Cx) : List ExceptHandler → List (Value × Nat × (Addr → Value → Option Addr → TS)) → Prop
  | nil : HdsN X [] []
  | cons {x n : Str} {c : Value} {i : Nat} {ts : Addr → Value → Option Addr → TS} {b₀ : Stmt} {suite : List Stmt} {np pos' : Pos} {hds : List ExceptHandler} {l : List (Value × Nat × (Addr → Value → Option Addr → TS))}
      (hi : X.N[i]? = some n) (hln : X.env.kindOf n = some .local) (hc : Names X x c)
      (hsu : ∀ (a : Addr) (oe : Obj) (cls : Value) (d : Option Addr) (pn : List (Addr × Obj)), Zc cls d oe → (∃ vs, oe.data = .fields vs) → PSs (X.suite a ((a, oe) :: pn)) (b₀ :: suite) (ts a cls d)) (r : HdsN X hds l) :
      HdsN X (.ExceptHandler (some (.Name x np)) (some n) (b₀ :: suite) pos' :: hds) ((c, i, ts) :: l)
section
variable {X : Cx} {body : List Stmt} {h₀ : ExceptHandler} {hds : List ExceptHandler} {l : List (Value × Nat × (Addr → Value → Option Addr → TS))} {pos : Pos} {tb : WX → TS} {Wout : WX}
theorem ps_try_named (hs : X.stack = X.env :: X.outer) (hf : X.env.frame = some X.env.locals) (hN : X.N.Nodup) (tk : Takes X Wout)
    (hb : ∀ (W : WX) (pn : List (Addr × Obj)) (xe : Value → Shared → Prop), Takes (X.tr pn xe) W → PassesOwn (model X.prog X.w) X.A X.env xe → PSs (X.tr pn xe) body (tb W))
    (hh : HdsN X (h₀ :: hds) l) : PS X (.Try body (h₀ :: hds) [] [] pos) (fun D σ H => tb (wAsM X.K Wout D l) D σ H) := by
  refine ⟨fun pins s σ H D I h => ?_⟩
  have ok := I.ok
  have hfr : X.A.frames = some (X.env :: X.outer) := by rw [ok.frames, hs]
  refine wpAny_Try_except ?_
  refine wpAny_mono ((hb (wAsM X.K Wout D l) (X.pn ++ pins) (fun e s₁ => wpAny (model X.prog X.w) X.A (noteFrame e X.env) (fun _ s₂ => wpAny (model X.prog X.w) X.A (setFlight e none) (fun _ s₃ =>
    wpAny (model X.prog X.w) X.A (handleBy e X.env (h₀ :: hds)) (SP X pins D) X.xe s₃) X.xe s₂) X.xe s₁) (fun u s' xx => ?_) PassesOwn.looking).run [] s σ H D (I.toTry _) h) (fun f s1 hsp => ?_) (fun e s1 he => he)
  · -- the catch
    obtain ⟨a, B, sI, pins', σ', H', cls, d, rfl, J', nb, up, sky, na, os, ag, w⟩ := xx
    have J : Inv X pins σ' H' sI := J'.ofTry ok
    have sky' : Sky B (X.env :: X.outer) a (Zc cls d) X.env.locals s'.heap := by rw [← hs]; exact sky
    show wpAny (model X.prog X.w) X.A (noteFrame (.ref a) X.env) _ _ _
    refine Sky.land Zc.steady hfr hf sky' fun h3 fl3 up3 => ?_
    have J3 : Inv X pins σ' H' { s' with heap := h3 } := J.landed nb fl3.1 (up.trans up3) os ag
    obtain ⟨oe3, vs3, he3, hz3, hd3⟩ := fl3.there
    have notFr : ∀ {h : Heap} {o : Obj} {vs : Array Value}, h.FunFrames B (X.env :: X.outer) → h.get? a = some o → o.data = .fields vs → a ∉ frs (X.env :: X.outer) := fun {h o vs} ff e dd hm => by
      obtain ⟨_, o', e', hnf⟩ := ff.mem hm
      rw [e] at e'; cases e'
      exact hnf _ dd
    have nfr := notFr fl3.2.2.1 he3 hd3
    have nL : a ≠ X.env.locals := fun z => nfr (List.mem_filterMap.mpr ⟨X.env, List.mem_cons_self, by rw [hf, z]⟩)
    have nF : a ∉ X.fs := fun hm => by
      obtain ⟨e, he, q⟩ := List.mem_filterMap.mp hm
      exact nfr (List.mem_filterMap.mpr ⟨e, List.mem_cons_of_mem _ he, q⟩)
    have S3 := J3.suite he3 hd3 na nL nF
    have go : ∀ {hds' : List ExceptHandler} {l' : List (Value × Nat × (Addr → Value → Option Addr → TS))}, HdsN X hds' l' → wAsM X.K Wout D l' cls d σ' H' →
        wpAny (model X.prog X.w) X.A (handleBy (.ref a) X.env hds') (SP X pins D) X.xe { s' with heap := h3 } := by
      intro hds' l' hk
      induction hk with
      | nil =>
        intro w
        refine wpAny_handleBy_nil ?_
        obtain ⟨k1, k2, k3, oe, vs, T, oT, ts', he, hz, hd, h1, hr⟩ := id fl3
        unfold PySem.passOn
        refine wpAny_bind (wpAny_field he hd h1 ?_)
        rw [if_neg (show ¬ ((Value.ref T == Value.none) = true) from by simp)]
        have fin : wpAny (model X.prog X.w) X.A (setFlight (.ref a) X.env.frame) (fun _ s4 => wpAny (model X.prog X.w) X.A (throw (.ref a) : Sem Flow) (SP X pins D) X.xe s4) X.xe { s' with heap := h3 } := by
          rw [hf]
          refine HandSPX.setFlight_upZ fl3 fun h4 hh4 up4 => wpAny_throw (tk _ _ ?_)
          exact ⟨a, B, sI, pins, σ', H', cls, d, rfl, J, nb, (up.trans up3).trans up4, .inr (.inr (by rw [hs]; exact hh4)), na, os, ag, w⟩
        first
          | exact wpAny_bind (wpAny_pure (wpAny_bind fin))
          | exact wpAny_bind fin
      | @cons x n c i ts b₀ suite np pos' hds2 l2 hi hln hc hsu r ih =>
        intro w
        have hloc : Loc X.env.scope n := .inl hln
        obtain ⟨b, hb1, hyes, hno⟩ := w
        refine wpAny_handleBy_cons (codeAny_handlers_test ?_) (by intro q; cases q)
        have LT : PySem.W.Looks (model X.prog X.w) h3 (typeOf (.ref a)) cls := fun A Q E s k q => wpAny_typeOf_ref (k _ _ he3) (by rw [hz3.1]; exact q)
        have LM := PySem.W.exm_one (M := model X.prog X.w) (J3.kIn) LT hb1
        have test : ∀ {Q : Value → Shared → Prop} {E : Value → Shared → Prop}, Q c { s' with heap := h3 } → wpAny (model X.prog X.w) (X.A.mark (some (.ref a))) (eval (.Name x np) X.env) Q E { s' with heap := h3 } := fun {Q E} q => by
          obtain ⟨hg, hdbg, hm | ⟨hm, hv, hnn⟩⟩ := hc
          · exact ld_glob (X := X.suite a ((a, oe3) :: (X.pn ++ pins))) S3 hg hm q hdbg
          · exact ld_blt (X := X.suite a ((a, oe3) :: (X.pn ++ pins))) S3 hg hm hv q hnn hdbg
        refine test (LM.here ?_)
        cases b with
        | true =>
          refine codeAny_handlers_suite_as ?_
          refine HandSPX.lands_againZ fl3 fun h4 fl4 up4 => ?_
          have J4 : Inv X pins σ' H' { s' with heap := h4 } := J.landed nb fl4.1 ((up.trans up3).trans up4) os ag
          obtain ⟨oe4, vs4, he4, hz4, hd4⟩ := fl4.there
          have S4 := J4.suite he4 hd4 na nL nF
          refine L2.store_ok (X := X.suite a ((a, oe4) :: (X.pn ++ pins))) (v := .ref a) S4 hN hi hloc rfl (fun s5 S5 => ?_) (.inr hln)
          refine wpAny_mono ((hsu a oe4 cls d (X.pn ++ pins) hz4 ⟨_, hd4⟩).run [] s5 _ H' _ S5 (hyes rfl a na)) (fun f s6 hsp => ?_) (fun _ _ z => False.elim z)
          have end_ : ∀ {σ6 : L2.St} {H6 : Hp} {Q : Shared → Prop}, Inv (X.suite a ((a, oe4) :: (X.pn ++ pins))) [] σ6 H6 s6 → (∀ s7, Inv X pins (σ6.set i none) H6 s7 → Q s7) →
              wpAny (model X.prog X.w) X.A (do bindName X.env n .none; unbindBehindTheSuite X.env n pos') (fun _ s7 => Q s7) X.xe s6 := fun {σ6 H6 Q} S6 hq => gone_ok (S6.unsuite ok) hN hi hln hq
          cases f with
          | next =>
            obtain ⟨σ6, H6, S6, q6⟩ := hsp
            exact end_ S6 fun s7 J7 => ⟨_, _, J7, q6⟩
          | brk =>
            obtain ⟨σ6, H6, S6, q6⟩ := hsp
            exact end_ S6 fun s7 J7 => ⟨_, _, J7, q6⟩
          | cont =>
            obtain ⟨σ6, H6, S6, q6⟩ := hsp
            exact end_ S6 fun s7 J7 => ⟨_, _, J7, q6⟩
          | ret u =>
            obtain ⟨v6, σ6, H6, S6, r6, q6⟩ := hsp
            exact end_ S6 fun s7 J7 => ⟨_, _, _, J7, r6, q6⟩
        | false =>
          show wpAny _ X.A (handleBy (.ref a) X.env hds2) _ _ _
          exact ih (hno rfl)
    exact go hh w
  · cases f with
    | next =>
      obtain ⟨σ', H', J', q⟩ := hsp
      exact wpAny_execs_nil ⟨σ', H', J'.ofTry ok, q⟩
    | brk =>
      obtain ⟨σ', H', J', q⟩ := hsp
      exact ⟨σ', H', J'.ofTry ok, q⟩
    | cont =>
      obtain ⟨σ', H', J', q⟩ := hsp
      exact ⟨σ', H', J'.ofTry ok, q⟩
    | ret u =>
      obtain ⟨v, σ', H', J', r, q⟩ := hsp
      exact ⟨v, σ', H', J'.ofTry ok, r, q⟩
end
/-! as a combinator: clauses (i, C, suite) -/
def hndsR (sb : Nat → Nat → Bool) (C' : Nat) (ps : List P) (π1 : En) : List (Nat × Nat × (Nat → List P → M Fl)) → Out Fl
  | [] => .exc C' ps π1
  | (i, C, fh) :: r => if sb C' C = true then (if notL π1 i = true then hndR i (fh C' ps (π1.set i .no)) else .bad) else hndsR sb C' ps π1 r
def tryMF (sb : Nat → Nat → Bool) (m : Nat) (fb : M Fl) (hs : List (Nat × Nat × (Nat → List P → M Fl))) : M Fl := fun π => match fb π with
  | .exc C' ps π1 => if C' < m then hndsR sb C' ps π1 hs else .bad
  | o => o
inductive HdsP (X : Cx) (c : Ctx) (w : Ws) (sb : Nat → Nat → Bool) (m : Nat) : List ExceptHandler → List (Nat × Nat × (Nat → List P → M Fl)) → Prop
  | nil : HdsP X c w sb m [] []
  | cons {x n : Str} {i C : Nat} {fh : Nat → List P → M Fl} {b₀ : Stmt} {suite : List Stmt} {np pos' : Pos} {hds : List ExceptHandler} {l : List (Nat × Nat × (Nat → List P → M Fl))}
      (hi : X.N[i]? = some n) (hln : X.env.kindOf n = some .local) (hcn : Names X x (.ref (c.cls C)))
      (hex : ∀ C', C' < m → PySem.W.exmOne X.K (.ref (c.cls C')) (.ref (c.cls C)) = some (sb C' C))
      (hsu : ∀ (C' : Nat) (ps : List P) (a : Addr) (oe : Obj) (d : Option Addr) (pn : List (Addr × Obj)), C' < m → sb C' C = true → Zc (.ref (c.cls C')) d oe → (∃ vs, oe.data = .fields vs) → PSs (X.suite a ((a, oe) :: pn)) (b₀ :: suite) (tX c (wx c w i a d C' ps) w (fh C' ps)))
      (r : HdsP X c w sb m hds l) : HdsP X c w sb m (.ExceptHandler (some (.Name x np)) (some n) (b₀ :: suite) pos' :: hds) ((i, C, fh) :: l)
def tsOf (c : Ctx) (w : Ws) (sb : Nat → Nat → Bool) (m : Nat) : List (Nat × Nat × (Nat → List P → M Fl)) → List (Value × Nat × (Addr → Value → Option Addr → TS))
  | [] => []
  | (i, C, fh) :: r => (.ref (c.cls C), i, fun a cls d D σ H => ∃ C' ps, C' < m ∧ sb C' C = true ∧ cls = .ref (c.cls C') ∧ tX c (wx c w i a d C' ps) w (fh C' ps) D σ H) :: tsOf c w sb m r
theorem hdsN_of {X : Cx} {c : Ctx} {w : Ws} {sb : Nat → Nat → Bool} {m : Nat} {hds : List ExceptHandler} {l : List (Nat × Nat × (Nat → List P → M Fl))} (h : HdsP X c w sb m hds l) : HdsN X hds (tsOf c w sb m l) := by
  induction h with
  | nil => exact .nil
  | cons hi hln hcn hex hsu r ih =>
    refine .cons hi hln hcn (fun a oe cls d pn hz hv => ⟨fun pins s σ H D I ⟨C', ps, h1, h2, h3, h4⟩ => ?_⟩) ih
    subst h3
    exact (hsu C' ps a oe d pn h1 h2 hz hv).run pins s σ H D I h4
theorem s_tryM {X : Cx} {c : Ctx} {w : Ws} {m : Nat} {body : List Stmt} {h₀ : ExceptHandler} {hds : List ExceptHandler} {pos : Pos} {sb : Nat → Nat → Bool} {fb : M Fl} {l : List (Nat × Nat × (Nat → List P → M Fl))}
    (hs : X.stack = X.env :: X.outer) (hf : X.env.frame = some X.env.locals) (hN : X.N.Nodup) (tk : Takes X w.W)
    (hb : ∀ (W : WX) (pn : List (Addr × Obj)) (xe : Value → Shared → Prop), Takes (X.tr pn xe) W → PassesOwn (model X.prog X.w) X.A X.env xe → PSs (X.tr pn xe) body (tS c ⟨W, w.g, w.mono⟩ fb))
    (hh : HdsP X c w sb m (h₀ :: hds) l) : PS X (.Try body (h₀ :: hds) [] [] pos) (tS c w (tryMF sb m fb l)) := by
  refine ps_weak (ps_try_named (tb := fun W => tS c ⟨W, w.g, w.mono⟩ fb) (Wout := w.W) hs hf hN tk hb (hdsN_of hh)) fun D σ H ⟨F, π, gg, s, po⟩ => ?_
  refine ⟨F, π, gg, s, ?_⟩
  unfold tryMF at po
  cases e0 : fb π with
  | bad => rw [e0] at po; exact po
  | ok fl π1 => rw [e0] at po; exact po
  | exc C' ps π1 =>
    rw [e0] at po
    intro F' σ' H' d t s' xd
    by_cases hm : C' < m
    case neg => simp only [if_neg hm] at po; exact po.elim
    simp only [if_pos hm] at po
    have go : ∀ {hds' : List ExceptHandler} {l' : List (Nat × Nat × (Nat → List P → M Fl))}, HdsP X c w sb m hds' l' → PoS c w.W F π σ H (hndsR sb C' ps π1 l') (flK c D π σ H) → wAsM X.K w.W D (tsOf c w sb m l') (.ref (c.cls C')) d σ' H' := by
      intro hds' l' hk
      induction hk with
      | nil => exact fun po => po F' σ' H' d t s' xd
      | @cons x n i C fh b₀ suite np pos' hds2 l2 hi hln hcn hex hsu r ih =>
        intro po
        refine ⟨sb C' C, hex C' hm, fun hb a ha => ⟨C', ps, hm, hb, rfl, ?_⟩, fun hb => ih ?_⟩
        · simp only [hndsR, if_pos hb] at po
          by_cases hl : notL π1 i = true
          case neg => simp only [if_neg hl] at po; exact po.elim
          simp only [if_pos hl] at po
          obtain ⟨s1, t1⟩ := s'.noset hl (some (.ref a))
          have T1 := t1 _ _ _ _ t
          have hσ : i < σ'.length := by rw [← s'.len]; exact (notL_at hl).1
          refine ⟨F', π1.set i .no, ⟨w.mono _ _ t.le gg, by rw [List.getElem?_set_self hσ], xd⟩, w.mono _ _ t.le gg, s1, ?_⟩
          cases e2 : fh C' ps (π1.set i .no) with
          | bad => rw [e2] at po; exact po
          | exc C2 qs π2 => rw [e2] at po; exact po.elim
          | ok fl π2 =>
            rw [e2] at po
            unfold hndR at po
            by_cases hl2 : notL π2 i = true
            case neg => simp only [if_neg hl2] at po; exact po.elim
            simp only [if_pos hl2] at po
            intro F2 σ2 H2 t2 s2
            obtain ⟨s3, t3⟩ := s2.noset hl2 none
            have K := po F2 _ H2 (t3 _ _ _ _ (T1.trans t2)) s3
            cases fl with
            | nx => exact K
            | bk => exact K
            | ct => exact K
            | rt r =>
              intro v hv
              refine K v ?_
              cases r with
              | val p => exact hv
              | own o =>
                obtain ⟨a2, e1, h1, h2, h3, h4⟩ := hv
                refine ⟨a2, e1, h1, fun ⟨j, o', q1, q2⟩ => h2 ?_, h3, ?_⟩
                · by_cases z : j = i
                  · subst z
                    rw [List.getElem?_set_self (notL_at hl2).1] at q1
                    cases q1
                  · rw [List.getElem?_set_ne (Ne.symm z)] at q1 q2
                    exact ⟨j, o', q1, q2⟩
                · exact Fr0.back T1 h4
        · simpa only [hndsR, hb, Bool.false_eq_true, if_false] using po
    exact go hh po
/-! a first statement of a suite: name = e -/
section
variable {X : Cx} {c : Ctx} {w' : Wi} {w : Ws} {e : Expr} {pos pos' : Pos} {fe : M Rs}
theorem x_set {i : Nat} {x : Str} (hW : w'.W = fun _ _ _ _ => False) (hN : X.N.Nodup) (hi : X.N[i]? = some x) (hx : Loc X.env.scope x) (he : PE X e (tE c w' fe)) (hs : swapsWith e (some (.Name x pos')) pos.line X.env = pure false := by rfl)
    (hf : X.fn x = true ∨ X.env.scope.names.lookup x = some .local := by first | exact .inl rfl | exact .inr rfl | assumption) :
    PS X (.Assign [.Name x pos'] e pos) (tX c w' w (setF i fe)) :=
  ps_weak (ps_set hN hi hx he hs hf) fun D σ H ⟨F, π, gx, gg, s, po⟩ => by
    refine ⟨F, π, gx, s, ?_⟩
    rw [hW]
    unfold setF at po
    cases e0 : fe π with
    | bad => rw [e0] at po; exact po
    | exc C ps π1 => rw [e0] at po; exact fun F' H' d t s => po F' σ H' d t s
    | ok r π1 =>
      rw [e0] at po
      intro F1 H1 t s1 v hr
      obtain ⟨π', k⟩ := set_post s1 hr t po
      exact k
end
end PV

namespace PV
open PySem PySem.Spec L2 PyProof.Rows

/-! ### own classes: isinstance -/
structure OwnC (K : PySem.W.Frag) (C : Addr) : Prop where
  cl : Cls K C
  ha : PySem.W.findIn K (.ref C) "__class__" = some (some (.builtin "object.__class__"))
  hn : PySem.W.specialIn K (.builtin "object.__class__") "__get__" = some (some (.builtin "getset_descriptor.__get__"))
  htk : PySem.W.takesIn K (.builtin "object.__class__") = some true
  hm : PySem.W.mroIn K C (.type "object") = some true
  hc : (PySem.W.clsIn K C).isSome = true
  ty : PySem.W.typeIn K (.ref C) = some (.type "type")
def tyNs : List String := ["NoneType", "bool", "int", "str", "tuple", "list"]
def isTyV : Value → Bool
  | .type _ => true
  | _ => false
theorem mro_ty : ∀ t ∈ tyNs, ∃ l, PySem.fastBuiltinMro t = some l ∧ l.all isTyV = true := by
  intro t h
  have key : (match PySem.fastBuiltinMro t with | some l => l.all isTyV | none => false) = true := by
    revert t
    decide +kernel
  cases q : PySem.fastBuiltinMro t with
  | none => rw [q] at key; cases key
  | some l => rw [q] at key; exact ⟨l, rfl, key⟩
theorem no_ref {C : Addr} : ∀ {l : List Value}, l.all isTyV = true → l.contains (.ref C) = false
  | [], _ => rfl
  | v :: l, h => by
    rw [List.all_cons, Bool.and_eq_true] at h
    rw [List.contains_cons, no_ref h.2, Bool.or_false]
    cases v <;> first | rfl | (simp [isTyV] at h) | (exact beq_eq_false_iff_ne.mpr (fun z => nomatch z))
theorem sub_ty {K : PySem.W.Frag} {C : Addr} {t : String} (h : t ∈ tyNs) : PySem.W.subIn K (.type t) (.ref C) = some false := by
  obtain ⟨l, h1, h2⟩ := mro_ty t h
  show (PySem.fastBuiltinMro t).map (·.contains (.ref C)) = some false
  rw [h1, Option.map_some, no_ref h2]
theorem kit_own_ty {K : PySem.W.Frag} {C : Addr} {t : String} (O : OwnC K C) (h : t ∈ tyNs) : PySem.W.kitOne K (.type t) (.ref C) = some false := by
  unfold PySem.W.kitOne PySem.W.kitCls
  rw [if_neg (fun z => by have := eq_of_beq z; cases this)]
  simp only [O.hc, O.ty, Bool.true_and, beq_self_eq_true, if_true]
  exact sub_ty h
theorem kit_own_self {K : PySem.W.Frag} {C : Addr} : PySem.W.kitOne K (.ref C) (.ref C) = some true := by
  unfold PySem.W.kitOne
  rw [if_pos (beq_self_eq_true _)]
theorem OwnC.tyx {c : Ctx} {H : Hp} {C : Nat} {ps : List P} {v : V} (O : OwnC c.K (c.cls C)) (r : Rp c H (.obj C ps) v) : TyX c.K H v (.ref (c.cls C)) := by
  obtain ⟨a, dx, vs, rfl, h, _⟩ := rp_obj r
  exact .base (.ins h O.cl O.ha O.hn O.htk O.hm)
def isiCP (C0 : Nat) : List P → Option Rv
  | [.obj C _, .cls C'] => if C = C0 ∧ C' = C0 then ib true else none
  | [p, .cls C'] => if C' = C0 ∧ (tyName p).isSome = true then ib false else none
  | _ => none
theorem v_isiC {c : Ctx} {C0 : Nat} (O : OwnC c.K (c.cls C0)) : CalV c (rIsi c.K) (isiCP C0) := by
  intro F H ps xs res Q l h e k
  have two : ∃ p C', ps = [p, .cls C'] ∧ C' = C0 ∧ ((∃ qs, p = .obj C0 qs ∧ res = .val (.bl true)) ∨ ((tyName p).isSome = true ∧ res = .val (.bl false))) := by
    unfold isiCP at e
    split at e
    · split at e
      · rename_i h; cases e; obtain ⟨h1, h2⟩ := h; subst h1 h2; exact ⟨_, _, rfl, rfl, .inl ⟨_, rfl, rfl⟩⟩
      · cases e
    · split at e
      · rename_i h; cases e; exact ⟨_, _, rfl, h.1, .inr ⟨h.2, rfl⟩⟩
      · cases e
    · cases e
  obtain ⟨p, C', rfl, hC, two⟩ := two
  subst hC
  obtain ⟨x, y, rfl, hx, hy⟩ := rbs2 h
  have ry := rp_cls (hy.rpH l)
  subst ry
  have rx := hx.rpH l
  rcases two with ⟨qs, rfl, rfl⟩ | ⟨ht, rfl⟩
  · exact ⟨x, _, _, _, true, rfl, .own _, O.tyx rx, kit_own_self, give l k mk_bl⟩
  · obtain ⟨t, ht⟩ := Option.isSome_iff_exists.mp ht
    exact ⟨x, _, _, _, false, rfl, .own _, tyx_of rx ht, kit_own_ty O (tyName_mem ht), give l k mk_bl⟩
section
variable {X : Cx} {c : Ctx} {w : Wi} {x : Str} {pos : Pos} {C : Nat}
/-- a class's name, a def's name -/
theorem p_clsE (hg : Gl X x) (hm : X.mg x = some (.ref (c.cls C))) (hd : (x == ("__debug__" : Str)) = false := by decide) : PE X (.Name x pos) (tE c w (cF (.cls C))) :=
  pe_weak (pe_glob (v := .ref (c.cls C)) hg hm rfl hd) (tC_of fun _ => mk_cls)
theorem p_fnE {f : Nat} (hg : Gl X x) (hm : X.mg x = some (.ref (c.fna f))) (hd : (x == ("__debug__" : Str)) = false := by decide) : PE X (.Name x pos) (tE c w (cF (.fn f))) :=
  pe_weak (pe_glob (v := .ref (c.fna f)) hg hm rfl hd) (tC_of fun _ => mk_fn)
end
/-! ### .. == and != by their own __eq__ -/
section
open PySem.W
variable {prog : Program} {w : World} {A : Around} {E : Value → Shared → Prop} {s : Shared} {K : Frag} {x C L f : Addr} {h₀ : Heap} {m : Str → Option Value} {ox : Obj} {od : Option Obj} {name : Str} {b tb : Value}
theorem bound_blt {M : Model} {args : List Value} {T nm : String} {id : String} {Q : Option Value → Shared → Prop} (X : K.In s.heap) (I : InstAt s.heap x ox C od) (hs : findIn K (.ref C) name = some (some (.builtin id))) (S : Slot T nm id)
    (h : wpAny M A (call (.builtin id) (.ref x :: args)) (fun v => Q (some v)) E s) : wpAny M A (callSpecialIfBound? (.ref x) name args) Q E s := by
  simp only [callSpecialIfBound?, bindSpecialIfBound?]
  refine wpAny_holding (wpAny_bind (wpAny_bind (wpAny_bind (I.type.here ((looks_findIn X hs).here ?_)))))
  refine wpAny_bind (wpAny_askSetting (wpAny_ite ?_))
  have fin : wpAny M A (call (.builtin id) ([.ref x] ++ args) >>= fun v => pure (some v)) Q E s := wpAny_bind (wpAny_mono h (fun v s' h' => wpAny_pure h') fun _ _ h' => h')
  simp only [S.bind]
  split
  · exact wpAny_bind (wpAny_pure (wpAny_pure fin))
  · exact wpAny_tryCatch (wpAny_bind (wpAny_pure (wpAny_pure fin)))
theorem check_obj {M : Model} {id n : String} {rest : List Value} {Q : Unit → Shared → Prop} (X : K.In s.heap) (I : InstAt s.heap x ox C od) (hm : mroIn K C (.type "object") = some true) (hk : builtinKind id = some .slot) (hs : splitId id = some ("object", n))
    (ha : argsOk id ⟨.ref x :: rest, []⟩) (hq : Q () s) : wpAny M A (checkBuiltinCall id ⟨.ref x :: rest, []⟩) Q E s := by
  simp only [checkBuiltinCall, hk, hs]
  refine wpAny_bind ?_
  unfold isInstance
  refine wpAny_bind (I.type.here ?_)
  refine (looks_mroIn X hm).here ?_
  cases hsig : Manifest.signature? id with
  | none => exact wpAny_pure hq
  | some sig =>
    simp only [argsOk, hsig] at ha
    have h2 : Bind.checkArgs id sig ⟨.ref x :: rest, []⟩ = pure () := ha
    show wpAny M A (Bind.checkArgs id sig ⟨.ref x :: rest, []⟩) Q E _
    rw [h2]; exact wpAny_pure hq
theorem ne_entry (X : K.In s.heap) (I : InstAt s.heap x ox C od) (hs : findIn K (.ref C) "__eq__" = some (some (.ref f))) (hf : isFn K (.ref f) = true) (hu : A.units < cLine) {Q : Fin → Shared → Prop}
    (hcall : wpAny (model prog w) A (call (.ref f) [.ref x, b]) (fun v s' => ∃ r, v = .bool r ∧ Q (.done (.ret (.bool (!r)))) s') E s) :
    wpAny (model prog w) A (Builtin.«object.__ne__» ⟨[.ref x, b], []⟩) Q E s := by
  unfold Builtin.«object.__ne__»
  repeat (first
    | with_reducible refine wpAny_cRoomFor hu ?_
    | (refine wpAny_bind (m := callSpecialIfBound? (.ref x) (Str.ofString "__eq__") [b])
        (ifBound_K X I hs hf (wpAny_mono hcall (fun r s' hr => by
          obtain ⟨b, rfl, hq⟩ := hr
          repeat (first | exact hq | exact wpAny_pure hq | exact wpAny_truthy_bool hq | (refine wpAny_bind (m := truthy (.bool _)) (wpAny_truthy_bool ?_)) | wp_step)) fun _ _ e => e)))
    | wp_step)
theorem ne_K {Q : Value → Shared → Prop} (hu : A.units + 1 < cLine) (X : K.In s.heap) (I : InstAt s.heap x ox C od) (hb : Looks (model prog w) s.heap (typeOf b) tb) (hn : notFirst K C tb = true) (hm : mroIn K C (.type "object") = some true)
    (hne : findIn K (.ref C) "__ne__" = some (some (.builtin "object.__ne__"))) (hs : findIn K (.ref C) "__eq__" = some (some (.ref f))) (hf : isFn K (.ref f) = true)
    (h : wpAny (model prog w) A.in1 (call (.ref f) [.ref x, b]) (fun v s' => ∃ r, v = .bool r ∧ Q (.bool (!r)) s') E s) : wpAny (model prog w) A (richCompare .NotEq (.ref x) b) Q E s := by
  have one : wpAny (model prog w) A (tryCompare (.ref x) "__ne__" b) (fun r s' => ∃ v, r = some v ∧ Q v s') E s := by
    unfold tryCompare
    refine wpAny_bind (bound_blt X I hne F.cmp_object.ne (wpAny_call (codeAny_call_builtin F.cmp_object.ne.plain F.cmpEntry_ne
      (check_obj X I hm F.cmpKind_ne F.cmpSplit_ne (F.cmpArgs_ne _ _) (ne_entry (A := A.in1) X I hs hf hu (wpAny_mono h (fun v s' hv => ?_) fun _ _ e => e))))))
    obtain ⟨r, rfl, hq⟩ := hv
    first | exact ⟨r, rfl, wpAny_pure ⟨_, rfl, hq⟩⟩ | exact ⟨r, rfl, wpAny_pure (wpAny_pure ⟨_, rfl, hq⟩)⟩
  unfold richCompare
  simp only [oneThing_ref]
  refine wpAny_holding (wpAny_bind (wpAny_cRoomFor (Nat.lt_of_succ_lt hu) ?_))
  simp only [show cmpInfo .NotEq = (("!=", "__ne__", "__ne__") : String × Str × Str) from rfl]
  refine wpAny_bind (I.type.here (wpAny_bind (hb.here ?_)))
  split
  · rename_i q
    have e : subIn K tb (.ref C) = some false := by
      rcases Bool.or_eq_true_iff.mp hn with e | e
      · rw [beq_iff_eq.mp e] at q; simp at q
      · exact beq_iff_eq.mp e
    refine wpAny_bind ((looks_subIn X e).here ?_)
    simp only [Bool.false_eq_true, if_false]
    refine wpAny_bind (wpAny_mono one (fun r s' z => ?_) fun _ _ e => e)
    obtain ⟨v, rfl, hq⟩ := z
    exact wpAny_pure hq
  · refine wpAny_bind (wpAny_pure ?_)
    simp only [Bool.false_eq_true, if_false]
    refine wpAny_bind (wpAny_mono one (fun r s' z => ?_) fun _ _ e => e)
    obtain ⟨v, rfl, hq⟩ := z
    exact wpAny_pure hq
end
end PV

namespace PV
open PySem PySem.Spec L2 PyProof.Rows

/-! ### a == b, a != b by an own __eq__ -/
theorem run_fnA {X : Cx} {k : Nat} {f : Addr} {fd : FuncData} {ps : List Str} {sp : Sp} {A : Around} {pins : List (Addr × Obj)} {σ : L2.St} {H : Hp} {s : Shared} {Q : VK} {us : List Value} {vs : List V} (G : FnG X.prog X.w X.K X.mg X.base k f fd ps sp)
    (hfr : A.frames = X.A.frames) (hg : A.guards = some []) (hr : Room k A) (hb : Binds X.K fd ps [])
    (I : L2.Inv X pins σ H s) (r : Vals vs us) (h : sp vs H Q (fun _ _ _ => False)) : wpAny (model X.prog X.w) A (call (.ref f) us) (L2.EP X pins σ Q) X.xe s := by
  have b := hb s us I.kIn (by rw [List.append_nil, ← r.length]; exact G.len _ _ _ _ h)
  rw [List.append_nil] at b
  have e0 : L2.Env0 X.prog X.w X.K X.mg X.base A X.stack s H := by
    have e := I.env0
    exact ⟨by rw [hfr]; exact e.frames, e.mod, e.bs, e.bsz, e.funs, e.frf, e.hok, e.bare⟩
  refine wpAny_call (codeAny_mono (G.run A X.stack s H ⟨us, []⟩ us vs Q _ hg hr e0 b r h) fun r s' hq => ?_)
  cases r with
  | error e =>
    obtain ⟨_, _, _, _, _, _, _, _, _, _, _, _, z⟩ := hq
    exact z.elim
  | ok fl => cases fl <;> first | exact I.after hq | exact False.elim hq
def rOE (K : PySem.W.Frag) (C : Addr) (sp : Sp) (neg : Bool) : R2 := fun x y H Q => ∃ a dx fs t, x = .ref a ∧ H a = some (.ins C dx fs) ∧ TyX K H y t ∧ PySem.W.notFirst K C t = true ∧
  sp [x, y] H (fun v H2 => ∃ b, v = .bl b ∧ Q (.bl (if neg = true then !b else b)) H2) (fun _ _ _ => False)
section
variable {X : Cx} {k : Nat} {f C : Addr} {fd : FuncData} {ps : List Str} {sp : Sp}
theorem op_oeq (G : FnG X.prog X.w X.K X.mg X.base k f fd ps sp) (hm : Meth X.K C "__eq__" f) (hb : Binds X.K fd ps []) (hgd : X.A.guards = some []) (hr : Room k X.A) : OpR X (compareOp .Eq) (rOE X.K C sp false) := by
  intro pins s σ H x y u v Q I rx ry ⟨a, dx, fs, t, ex, ha, ty, hn, hs⟩
  subst ex
  cases rx
  obtain ⟨P, Z, p, _⟩ := kit_of I ry ty
  obtain ⟨mA, J, _⟩ := ins_get I.hok ha
  obtain ⟨od, J, _⟩ := J.look
  obtain ⟨m, hF⟩ := I.fr
  show wpAny (model X.prog X.w) X.A (richCompare .Eq (.ref a) v) (EP X pins σ Q) X.xe s
  refine PySem.W.cmp_K (op := .Eq) (tb := t) hr.units0 hF I.ok.mod.kin J (Z.ty _ _ I.kIn p) hn hm.at_ hm.fn ?_
  refine wpAny_mono (run_fnA G rfl hgd hr hb I (vs := [.ref a, y]) (us := [.ref a, v]) (.cons rfl (.cons ry .nil)) hs) (fun r s' q => ?_) fun _ _ x => x
  obtain ⟨v', H', I', rv, b, e, q⟩ := q
  subst e
  cases rv
  exact ⟨.bl b, H', I', rfl, q⟩
theorem op_one (G : FnG X.prog X.w X.K X.mg X.base k f fd ps sp) (hm : Meth X.K C "__eq__" f) (hne : PySem.W.findIn X.K (.ref C) "__ne__" = some (some (.builtin "object.__ne__"))) (hmr : PySem.W.mroIn X.K C (.type "object") = some true) (hb : Binds X.K fd ps []) (hgd : X.A.guards = some []) (hr : Room (k + 1) X.A) : OpR X (compareOp .NotEq) (rOE X.K C sp true) := by
  intro pins s σ H x y u v Q I rx ry ⟨a, dx, fs, t, ex, ha, ty, hn, hs⟩
  subst ex
  cases rx
  obtain ⟨P, Z, p, _⟩ := kit_of I ry ty
  obtain ⟨mA, J, _⟩ := ins_get I.hok ha
  obtain ⟨od, J, _⟩ := J.look
  show wpAny (model X.prog X.w) X.A (richCompare .NotEq (.ref a) v) (EP X pins σ Q) X.xe s
  refine ne_K (tb := t) hr.in1.units0 I.kIn J (Z.ty _ _ I.kIn p) hn hmr hne hm.at_ hm.fn ?_
  refine wpAny_mono (run_fnA (A := X.A.in1) G rfl hgd hr.in1 hb I (vs := [.ref a, y]) (us := [.ref a, v]) (.cons rfl (.cons ry .nil)) hs) (fun r s' q => ?_) fun _ _ x => x
  obtain ⟨v', H', I', rv, b, e, q⟩ := q
  subst e
  cases rv
  exact ⟨b, rfl, .bl (!b), H', I', rfl, q⟩
end
/-- operands an own == answers for -/
def cmpOk (C0 : Nat) : P → Bool
  | .obj C _ => C == C0
  | q => (tyName q).isSome
def oeR (C0 : Nat) (Fn : FN) (neg : Bool) (p q : P) : M Rs := fun π => match p with
  | .obj C vs => if C = C0 ∧ cmpOk C0 q = true then (match Fn [.val (.obj C vs), .val q] with
      | .ok (.val (.bl b)) _ => .ok (.val (.bl (if neg = true then !b else b))) π
      | _ => .bad) else .bad
  | _ => .bad
def oeF (C0 : Nat) (Fn : FN) (neg : Bool) (f g : M P) : M Rs := fun π => (f π).bind fun p π1 => (g π1).bind fun q => oeR C0 Fn neg p q
section
variable {c : Ctx} {F F' H H' : Hp} {π : En} {σ : L2.St} {p q : P} {x y : V}
theorem two_sr {π' : En} {σ' : L2.St} (s : SR c F π' σ' H) (hx : Rp c F p x) (hy : Rp c F q y) : SR c F [.val p, .val q] ([x, y].map some) H := by
  refine ⟨s.le, rfl, fun i r e => ?_, fun i s o e1 e2 => ?_, fun i j s s' o o' a e1 e2 e3 e4 _ _ => ?_⟩
  · match i, e with
    | 0, e => cases e; exact ⟨x, rfl, hx⟩
    | 1, e => cases e; exact ⟨y, rfl, hy⟩
    | i + 2, e => simp at e
  · match i, e1 with
    | 0, e => cases e; cases e2
    | 1, e => cases e; cases e2
    | i + 2, e => simp at e
  · match i, e1 with
    | 0, e => cases e; cases e2
    | 1, e => cases e; cases e2
    | i + 2, e => simp at e
theorem two_own {a : Addr} : ¬ Own [.val p, .val q] ([x, y].map some) a := fun ⟨i, s, o, e1, e2, e3⟩ => by
  match i, e1 with
  | 0, e => cases e; cases e2
  | 1, e => cases e; cases e2
  | i + 2, e => simp at e
theorem two_no : noOwn [.val p, .val q] := fun i o e => by
  match i, e with
  | 0, e => cases e
  | 1, e => cases e
  | i + 2, e => simp at e
theorem two_gr {πs' : List Sl} (t : Tr F [.val p, .val q] ([x, y].map some) H F' πs' ([x, y].map some) H') (s' : SR c F' πs' ([x, y].map some) H') : Gr F H F' H' :=
  ⟨t.le, s'.le, fun a o e => t.keep a o e two_own, fun a e => (t.new a e).imp id fun z => z.resolve_right two_own⟩
end
theorem own_tyx {c : Ctx} {C0 : Nat} (O : OwnC c.K (c.cls C0)) {F H : Hp} {q : P} {y : V} (hq : cmpOk C0 q = true) (r : Rp c F q y) (l : Le F H) : ∃ t, TyX c.K H y t ∧ PySem.W.notFirst c.K (c.cls C0) t = true := by
  have r' := Rp.mono l _ _ r
  have ty : (tyName q).isSome = true → ∃ t, TyX c.K H y t ∧ PySem.W.notFirst c.K (c.cls C0) t = true := fun h => by
    obtain ⟨t, ht⟩ := Option.isSome_iff_exists.mp h
    refine ⟨_, tyx_of r' ht, ?_⟩
    unfold PySem.W.notFirst
    rw [sub_ty (tyName_mem ht)]
    simp
  cases q with
  | obj C vs =>
    have e : C = C0 := eq_of_beq hq
    subst e
    refine ⟨_, O.tyx r', ?_⟩
    unfold PySem.W.notFirst
    simp
  | _ => exact ty hq
section
variable {X : Cx} {c : Ctx} {w : Wi} {a b : Expr} {pos : Pos} {f g : M P} {j k C0 : Nat} {Fn : FN}
theorem oe_weak {neg : Bool} (hK : X.K = c.K) (O : OwnC c.K (c.cls C0)) {σ : L2.St} {H : Hp} {Q : VK} (h : tE c w (oeF C0 Fn neg f g) σ H Q) : tOp (rOE X.K (c.cls C0) (spF c 2 Fn) neg) (tV c w f) (tV c w g) σ H Q := by
  obtain ⟨F, π, gg, s, po⟩ := h
  refine ⟨F, π, gg, s, (Po.split po).mono fun p π1 F1 H1 t1 s1 p1 x hx => ⟨F1, π1, w.mono _ _ t1.le gg, s1, (Po.split p1).mono fun q π2 F2 H2 t2 s2 p2 y hy => ?_⟩⟩
  unfold oeR at p2
  cases p with
  | obj C vs =>
    by_cases hC : C = C0 ∧ cmpOk C0 q = true
    case neg => simp only [if_neg hC] at p2; exact p2.elim
    simp only [if_pos hC] at p2
    obtain ⟨e, hq⟩ := hC
    subst e
    have hx2 := Rp.mono t2.le _ _ hx
    obtain ⟨a, dx, us, e, ha, hr⟩ := rp_obj hx2
    obtain ⟨t, ty, hn⟩ := own_tyx O hq hy s2.le
    refine ⟨a, dx, _, t, e, s2.le.ins ha, by rw [hK]; exact ty, by rw [hK]; exact hn, F2, [.val (.obj C vs), .val q], rfl, two_no, two_sr s2 hx2 hy, ?_⟩
    cases e3 : Fn [.val (.obj C vs), .val q] with
    | bad => rw [e3] at p2; exact p2.elim
    | exc C' qs πs' => rw [e3] at p2; exact p2.elim
    | ok r πs' =>
      rw [e3] at p2
      cases r with
      | own o => exact p2.elim
      | val r =>
        cases r with
        | bl b =>
          intro v F' H' t3 s3 hv
          have gr := two_gr t3 s3
          exact ⟨b, rp_bl (show Rp c F' (.bl b) v from hv), p2 F' H' gr.tr (gr.sr s2) _ (show Rp c F' (.bl _) (.bl _) from mk_bl)⟩
        | _ => exact p2.elim
  | _ => exact p2.elim
theorem p_oeq (Cq : Cm X.prog X.w X.K X.mg X.base c j C0 "__eq__" 2 Fn) (O : OwnC X.K (c.cls C0)) (hK : X.K = c.K) (hj : j ≤ k) (hgd : X.A.guards = some []) (hr : Room k X.A) (ha : PE X a (tV c w f)) (hb : PE X b (tV c w g)) (hm : behindInMarks .Eq b = false := by rfl) :
    PE X (.Compare a [.Eq] [b] pos) (tE c w (oeF C0 Fn false f g)) := by
  obtain ⟨f', fd, ps, G, hm', hb'⟩ := Cq.ex
  exact pe_weak (pe_cmpR (op_oeq G hm' hb' hgd (hr.mono hj)) ha hb hm) fun σ H Q h => oe_weak hK (hK ▸ O) h
theorem p_one (Cq : Cm X.prog X.w X.K X.mg X.base c j C0 "__eq__" 2 Fn) (O : OwnC X.K (c.cls C0)) (hne : PySem.W.findIn X.K (.ref (c.cls C0)) "__ne__" = some (some (.builtin "object.__ne__"))) (hK : X.K = c.K) (hj : j + 1 ≤ k) (hgd : X.A.guards = some []) (hr : Room k X.A) (ha : PE X a (tV c w f)) (hb : PE X b (tV c w g)) (hm : behindInMarks .NotEq b = false := by rfl) :
    PE X (.Compare a [.NotEq] [b] pos) (tE c w (oeF C0 Fn true f g)) := by
  obtain ⟨f', fd, ps, G, hm', hb'⟩ := Cq.ex
  exact pe_weak (pe_cmpR (op_one G hm' hne O.hm hb' hgd (hr.mono hj)) ha hb hm) fun σ H Q h => oe_weak hK (hK ▸ O) h
end
/-! ### x(e, ..) where the parameter x holds a def -/
def callVF (tbl : Nat → Option FN) (i : Nat) (fa : M (List Rs)) : M Rs := fun π => match π[i]? with
  | some (.val (.fn k)) => (match tbl k with
    | some Fn => callF Fn fa π
    | none => .bad)
  | _ => .bad
structure HeldG (P : Program) (w : World) (K : PySem.W.Frag) (mg : Str → Option Value) (base : Heap) (k : Nat) (f : Addr) (sp : Sp) : Prop where
  ex : ∃ (fd : FuncData) (ps : List Str), FnG P w K mg base k f fd ps sp ∧ PySem.W.keepIn K (.ref f) = true ∧ Binds K fd ps []
theorem held_of {P : Program} {w : World} {K : PySem.W.Frag} {mg : Str → Option Value} {base : Heap} {c : Ctx} {j k n : Nat} {x : Str} {Fn : FN} {f : Addr} (C : Ca P w K mg base c j x n Fn) (hj : j ≤ k) (hm : mg x = some (.ref f)) : HeldG P w K mg base k f (spF c n Fn) := by
  obtain ⟨f', fd, ps, G, hm', hk, hb⟩ := C.ex
  rw [hm] at hm'
  cases hm'
  exact ⟨fd, ps, G.mono hj, hk, hb⟩
section
variable {X : Cx} {c : Ctx} {w : Wi} {k n i : Nat} {x : Str} {p pos : Pos} {e : Expr} {es : List Expr} {fa : M (List Rs)} {tbl : Nat → Option FN} {t : TA} {E : L2.St → XK}
theorem pe_callLG {S : Addr → Sp → Prop} (hS : ∀ f sp, S f sp → HeldG X.prog X.w X.K X.mg X.base k f sp) (hgd : X.A.guards = some []) (hr : Room k X.A) (hN : X.N[i]? = some x) (hv : Vis X.env.scope x) (hx : ∀ σ, PassesAt (L2.CX X.prog X.w) X σ (E σ)) (ha : PA X (e :: es) t)
    (hdb : (x == ("__debug__" : Str)) = false := by decide) (hcd : (x == ("__classdict__" : Str)) = false := by decide)
    (he : starEach (e :: es) X.env = (false, eval e X.env) :: starEach es X.env := by rfl) (hpl : (backTo pos (starEach es X.env)).any (·.1) = false := by rfl) :
    PE X (.Call (.Name x p) (e :: es) [] pos) (fun σ H Q => ∃ f sp, σ[i]? = some (some (.ref f)) ∧ S f sp ∧ t σ H fun vs H1 => sp vs H1 Q (E σ)) := by
  refine ⟨fun pins s σ H Q I h => ?_⟩
  obtain ⟨f, sp, hs, hS', ht⟩ := h
  obtain ⟨fd, ps, G, hk, hb⟩ := (hS f sp hS').ex
  refine wpAny_Call_Name_kw (thn ((pe_var (pos := p) hN hv hdb hcd).run pins s σ H (fun v H1 => v = .ref f ∧ H1 = H) I ⟨.ref f, hs, rfl, rfl⟩) fun u s1 ⟨v, H1, I1, r1, q1⟩ => ?_)
  obtain ⟨rfl, rfl⟩ := q1
  cases r1
  refine PySem.W.callWith_K (h₀ := X.base) I.ok.mod.kin hk (thn (ha.run pos pins s1 σ _ _ I1 ht) fun us s2 ⟨vs, H2, I2, r, q⟩ => ⟨I2.kIn, ?_⟩) he hpl
  exact run_fnG G hgd hr hb (hx σ) I2 r q
theorem p_callV (hT : ∀ k0 Fn, tbl k0 = some Fn → HeldG X.prog X.w X.K X.mg X.base k (c.fna k0) (spF c n Fn)) (hgd : X.A.guards = some []) (hr : Room k X.A) (tk : Takes X w.W) (ha : PA X (e :: es) (tR c w fa)) (hlen : ∀ π rs π', fa π = .ok rs π' → rs.length = n)
    (hN : X.N[i]? = some x := by rfl) (hv : Vis X.env.scope x := by first | exact Or.inl rfl | exact Or.inr (Or.inl rfl) | exact Or.inr (Or.inr rfl)) (hdb : (x == ("__debug__" : Str)) = false := by decide) (hcd : (x == ("__classdict__" : Str)) = false := by decide)
    (he : starEach (e :: es) X.env = (false, eval e X.env) :: starEach es X.env := by rfl) (hpl : (backTo pos (starEach es X.env)).any (·.1) = false := by rfl) :
    PE X (.Call (.Name x p) (e :: es) [] pos) (tE c w (callVF tbl i fa)) :=
  pe_weak (pe_callLG (S := fun f sp => ∃ k0 Fn, tbl k0 = some Fn ∧ f = c.fna k0 ∧ sp = spF c n Fn) (fun f sp ⟨k0, Fn, h1, h2, h3⟩ => h2 ▸ h3 ▸ hT k0 Fn h1) hgd hr hN hv (fun σ => passAt tk σ) ha hdb hcd he hpl) fun σ H Q ⟨F, π, gg, s, po⟩ => by
    unfold callVF at po
    cases e1 : π[i]? with
    | none => rw [e1] at po; exact po.elim
    | some sl =>
      cases sl with
      | val p0 =>
        cases p0 with
        | fn k0 =>
          rw [e1] at po
          cases e2 : tbl k0 with
          | none => simp only [e2] at po; exact po.elim
          | some Fn =>
            simp only [e2] at po
            obtain ⟨v, h1, h2⟩ := s.vl i _ e1
            have h3 := rp_fn h2
            subst h3
            refine ⟨_, _, h1, ⟨k0, Fn, e2, rfl, rfl⟩, F, π, gg, s, ?_⟩
            unfold callF at po
            cases e0 : fa π with
            | bad => rw [e0] at po; exact po
            | exc C qs π1 => rw [e0] at po; exact po
            | ok rs π1 =>
              rw [e0] at po
              intro F1 H1 t s1 vs hx
              refine call_post s1 hx (hlen _ _ _ e0) (Po.from po t) fun r π2 F2 H2 v t2 kk hr2 => kk v (hr2.base t)
        | _ => rw [e1] at po; exact po.elim
      | _ => rw [e1] at po; exact po.elim
end
end PV

namespace PV
open PySem PySem.Spec L2 PyProof.Rows
open PySem.Sem (wp)

/-! ### enumerate(tuple), at the library's level -/
set_option maxHeartbeats 1000000 in
theorem meets_enum1 {v : Value} {o : Obj} {H : Heap → Prop} (B : Begins v o H) :
    Meets (Builtin.«enumerate.__new__» ⟨[.type "enumerate", v], []⟩) (fun _ R s => H s.heap ∧
      R (.ok (.ret (.ref (s.heap.push o).objs.size))) { s with heap := (s.heap.push o).push { cls := .type "enumerate", data := .fields #[.none, .bool false, .ref s.heap.objs.size, rawInt 0, .none, .none] } }) :=
  .of_wp fun prog w A R s h => by
    obtain ⟨hp, g, d, tk, os⟩ := s; obtain ⟨h1, h⟩ := h
    have hsub := sub_enumerate
    have q1 : ∀ {A' : Around} {E : Value → Shared → Prop} {Q : Value → Shared → Prop}, Q (.ref hp.objs.size) ⟨hp.push o, g, d, tk, os⟩ → wpAny (model prog w) A' (pyIter v) Q E ⟨hp, g, d, tk, os⟩ :=
      fun q => B.iter prog w _ _ ⟨hp, g, d, tk, os⟩ _ h1 q
    wp_walk using q1
    refine wpAny_stack_any fun st => wpAny_pure ?_
    split
    · rename_i c _ _ _ _ _
      cases (c == Value.type "enumerate")
      · wp_walk using q1
        exact ⟨_, rfl, h⟩
      · wp_walk using q1
        exact ⟨_, rfl, h⟩
    · wp_walk using q1
      exact ⟨_, rfl, h⟩
theorem enum_begins1 {prog : Program} {w : World} {A : Around} {E : Value → Shared → Prop} {s : Shared} {v : Value} {o : Obj} {H : Heap → Prop} {Q : Value → Shared → Prop} (B : Begins v o H) (h1 : H s.heap)
    (h : ∀ h', IsEnum h' (s.heap.objs.size + 1) s.heap.objs.size 0 .none → h'.get? s.heap.objs.size = some o → h'.objs.size = s.heap.objs.size + 2 →
      (∀ b o, s.heap.get? b = some o → h'.get? b = some o) → Q (.ref (s.heap.objs.size + 1)) { s with heap := h' }) :
    wpAny (model prog w) A (call (.type "enumerate") [v]) Q E s := by
  refine callType_new F.called_enumerate (by decide) (F.typeCall_enumerate_1 _) (F.newCall_enumerate_1 _) (fun obj => F.args_object_init_2 obj _) F.entry_enumerate_new (meets_enum1 B) ⟨h1, ?_⟩
  have hz : (s.heap.push o).objs.size = s.heap.objs.size + 1 := Heap.size_push ..
  show _ ∧ _
  rw [hz]
  have he : IsEnum ((s.heap.push o).push { cls := .type "enumerate", data := .fields #[.none, .bool false, .ref s.heap.objs.size, rawInt 0, .none, .none] }) (s.heap.objs.size + 1) s.heap.objs.size 0 .none := by
    have := Heap.get?_push_size (s.heap.push o) (o := { cls := .type "enumerate", data := .fields #[.none, .bool false, .ref s.heap.objs.size, rawInt 0, .none, .none] }) rfl
    rw [hz] at this; exact this
  refine ⟨⟨_, he, rfl⟩, h _ he (Heap.get?_push_of_some _ (Heap.get?_push_size _ B.free)) (by rw [Heap.size_push, hz]) fun b o x => Heap.get?_push_of_some _ (Heap.get?_push_of_some _ x)⟩
theorem enumT_end {prog : Program} {w : World} {A : Around} {E : Value → Shared → Prop} {s : Shared} {e it l : Addr} {i : Nat} {j : Int} {items : Array Value} {old : Value} {Q : Option Value → Shared → Prop} (hh : A.in1.handled = none)
    (he : IsEnum s.heap e it j old) (hit : s.heap.IsTupleIter it l i) (hl : s.heap.IsTuple l items) (hx : items[i]? = none)
    (hQ : ∀ h', Heap.ExtBut it s.heap h' → Q none { s with heap := h' }) : wpAny (model prog w) A (pyNext (.ref e)) Q E s := by
  have hT : s.TypeIs (.ref e) "enumerate" := ⟨_, he, rfl⟩
  unfold pyNext
  refine wpAny_bind (wpAny_attempt (wpAny_callSpecial?_slot (name := Str.ofString "__next__") hT F.slot_enumerate_next
    (wpAny_call_entry F.slot_enumerate_next hT F.entry_enumerate_next ?_ (F.args_enumerate_next_1 _))))
  show wpAny _ _ (field (.ref e) 2 >>= _) _ _ _
  refine wpAny_bind (wpAny_field he rfl (x := .ref it) rfl ?_)
  refine wpAny_bind (RZ.nextOf_tuple_end hh hit hl hx fun h' x he' hx' => ?_)
  obtain ⟨o, ho, hc⟩ := hx'
  refine wpAny_bind (wpAny_isInstance (T := "StopIteration") (b := true) ⟨o, ho, hc⟩ isSubtype_stop ?_)
  exact wpAny_pure (hQ _ he')
/-! ### .. over the layer -/
def IteT (K : PySem.W.Frag) (a : Addr) : It :=
  ⟨fun i H => ∃ (xs : List V) (x : V), SqT K H a xs ∧ xs[i]? = some x, fun i H v H' => ∃ T x, v = .ref T ∧ H T = none ∧ H' = upd H T (.tup [.int (i : Nat), x]) ∧ ∀ xs, SqT K H a xs → xs[i]? = some x, fun i H => ∃ xs : List V, SqT K H a xs ∧ xs.length ≤ i⟩
theorem turn_enumT {P : Program} {w : World} {K : PySem.W.Frag} {elts : List Expr} {kk : Nat} {tpos : Pos} (a e it : Addr) (hea : e ≠ a) (hia : it ≠ a) :
    Turn P w K (.Tuple elts kk tpos) (IteT K a) [e, it] e (fun i h => (∃ old, IsEnum h e it ((i : Nat) : Int) old) ∧ h.IsTupleIter it a i ∧ e ≠ it) where
  mem := by simp
  obj := fun i h st b hb => by
    obtain ⟨⟨old, he⟩, ⟨o, ho, hc, hd⟩, _⟩ := st
    have e' : b = e ∨ b = it := by simpa using hb
    rcases e' with z | z
    · rw [z]; exact ⟨_, he, fun v q => nomatch q⟩
    · rw [z]; exact ⟨o, ho, fun v q => by rw [hd] at q; cases q⟩
  keep := fun i h h' st k => let ⟨⟨old, he⟩, hi, hne⟩ := st; ⟨⟨old, k e (by simp) _ he⟩, hi.at fun o q => k it (by simp) o q, hne⟩
  item := by
    intro X hP hw hK hc i pins s σ H E I hf st hg
    subst hP hw hK
    obtain ⟨⟨old, he⟩, hit, hne⟩ := st
    obtain ⟨xs, x, hq, hx⟩ := hg
    obtain ⟨its, rv, p, hz⟩ := I.tuple hq
    obtain ⟨u, hu, ru⟩ := rv.get hx
    have hel : e < s.heap.objs.size := Heap.lt_size he
    have hil : it < s.heap.objs.size := by obtain ⟨_, q, _⟩ := hit; exact Heap.lt_size q
    have D := Draws.tuple (prog := X.prog) (w := X.w) (A := X.A.in1) (I.ok.hd hc) it a (Ne.symm hia) its.toArray
    have hlt : i < its.toArray.size := by
      have := (List.getElem?_eq_some_iff.mp hu).1
      simpa using this
    refine wpAny_pyNext_enum_itemD D he ⟨hit, p⟩ hlt hne (by simp [hne, hea]) fun x' h' tk hP ho hst hT hsz hk => ?_
    have hx' : x' = u := by
      have hP' : its.toArray[i]? = some x' := hP
      rw [show its.toArray[i]? = some u by simpa using hu] at hP'
      exact (Option.some.inj hP').symm
    subst hx'
    refine ⟨_, rfl, wpAny_letOwnedTupleGo_enum (s := { s with heap := h', toks := tk + 1 }) ho fun h'' he' sb => ?_⟩
    have hT2 : h''.get? s.heap.objs.size = some { cls := .type "tuple", data := .seq #[.int i tk, x'] } := (sb.2 _ (Nat.ne_of_gt hel)).trans hT
    have new : ObjOk X.prog X.w (upd H s.heap.objs.size (.tup [.int (i : Nat), x])) h'' s.heap.objs.size (.tup [.int (i : Nat), x]) :=
      ⟨by show 2 ≤ sizeLine; decide, [.int i tk, x'], .cons ⟨_, rfl⟩ (.cons ru .nil), ⟨_, hT2, rfl, _, rfl⟩⟩
    have I1 : Inv X pins σ (upd H s.heap.objs.size (.tup [.int (i : Nat), x])) { s with heap := h'', toks := tk + 1 } :=
      I.turnedNew (ch := [e, it]) (fun b ob hb q => (sb.2 b (fun z => hb (by simp [z]))).trans (hk b ob (fun z => hb (by simp [z])) (fun z => hb (by simp [z])) q)) hf (Nat.le_refl _) new
    refine ⟨.ref s.heap.objs.size, _, I1, rfl, ⟨_, x, rfl, I.hok.fresh (Nat.le_refl _), rfl, fun ys hy => by rw [I.tuple_inj hy hq]; exact hx⟩, ⟨⟨x', ?_⟩, hst.1.at fun o q => (sb.2 it (Ne.symm hne)).trans q, hne⟩, fun b hb => ?_⟩
    · have e1 : ((i + 1 : Nat) : Int) = (i : Int) + 1 := by omega
      rw [e1]; exact he'
    · have hb' : b < s.heap.objs.size := by
        have e' : b = e ∨ b = it := by simpa using hb
        rcases e' with z | z
        · rw [z]; exact hel
        · rw [z]; exact hil
      rw [upd_ne (Nat.ne_of_lt hb')]
      exact (hf b hb).1
  done := by
    intro X hP hw hK hc i pins s σ H E I hf st hg
    subst hP hw hK
    obtain ⟨⟨old, he⟩, hit, hne⟩ := st
    obtain ⟨xs, hq, hx⟩ := hg
    obtain ⟨its, rv, p, hz⟩ := I.tuple hq
    obtain ⟨f0, f1, f2, f3, f4, f5⟩ := hf it (by simp)
    have hl := rv.length
    exact enumT_end (I.ok.hd hc) he hit p (by simp; omega) fun h' eb => ⟨rfl, I.turned (t' := s.toks) (fun b o hb q => eb b o hb q) f0 f1 f3 f4 f5⟩
  self := fun A i s Q E st h => let ⟨⟨_, he⟩, _⟩ := st; wpAny_pyIter_enum he h
/-- enumerate(list or tuple) -/
def iEnumA (K : PySem.W.Frag) (ta : TA) : TI := fun σ H R => ta σ H fun vs H1 => ∃ a xs, vs = [.ref a] ∧ ((SqL K H1 a xs ∧ (xs.length ≤ sizeLine → R (Ite K a) H1)) ∨ (SqT K H1 a xs ∧ (xs.length ≤ sizeLine → R (IteT K a) H1)))
theorem pi_enumA {X : Cx} {e : Expr} {ta : TA} {p pos tpos : Pos} {elts : List Expr} {kk : Nat} (hg : Gl X "enumerate") (hm : X.mg "enumerate" = none) (ha : PA X [e] ta) (hs : starEach [e] X.env = [(false, eval e X.env)] := by rfl) :
    PI X (.Tuple elts kk tpos) (.Call (.Name "enumerate" p) [e] [] pos) (iEnumA X.K ta) := by
  refine ⟨fun pins s σ H R I h => ?_⟩
  refine Call_ (ld_blt I hg hm boot_enumerate (PyProof.Rows.callWith_type1 (thn (ha.run pos pins s σ H _ I h) fun us s1 ⟨vs, H1, I1, r1, q1⟩ => ?_) hs rfl))
  obtain ⟨a, xs, ex, q⟩ := q1
  subst ex
  cases r1 with
  | cons r rr =>
    cases rr
    cases r
    have fresh2 : ∀ b, b ∈ [s1.heap.objs.size + 1, s1.heap.objs.size] → FpOk X pins H1 b := fun b hb => by
      have e' : b = s1.heap.objs.size + 1 ∨ b = s1.heap.objs.size := by simpa using hb
      have hle : s1.heap.objs.size ≤ b := by
        rcases e' with z | z
        · rw [z]; exact Nat.le_add_right _ _
        · rw [z]; exact Nat.le_refl _
      exact I1.fpOk hle (I1.hok.fresh hle)
    rcases q with ⟨hq, q⟩ | ⟨hq, q⟩
    · obtain ⟨its, rv, p', hz⟩ := I1.list hq
      refine call_enumerate_list p'.isList fun h' he hit hsz hk => wpAny_pyIter_enum he ?_
      have I2 : Inv X pins σ H1 { s1 with heap := h' } := I1.kept (t' := s1.toks) hk
      exact ⟨s1.heap.objs.size + 1, [s1.heap.objs.size + 1, s1.heap.objs.size], _, _, H1, rfl, I2, turn_enum a (s1.heap.objs.size + 1) s1.heap.objs.size, ⟨⟨.none, he⟩, hit, Nat.succ_ne_self _⟩, fresh2, q hz⟩
    · obtain ⟨its, rv, p', hz⟩ := I1.tuple hq
      have p2 : s1.heap.IsTuple a its.toArray := p'
      have hal : a < s1.heap.objs.size := by obtain ⟨_, q, _⟩ := p2; exact Heap.lt_size q
      refine enum_begins1 (begins_tuple a its.toArray) p2 fun h' he hit hsz hk => wpAny_pyIter_enum he ?_
      have I2 : Inv X pins σ H1 { s1 with heap := h' } := I1.kept (t' := s1.toks) hk
      exact ⟨s1.heap.objs.size + 1, [s1.heap.objs.size + 1, s1.heap.objs.size], _, _, H1, rfl, I2, turn_enumT a (s1.heap.objs.size + 1) s1.heap.objs.size (Nat.ne_of_gt (Nat.lt_succ_of_lt hal)) (Nat.ne_of_gt hal), ⟨⟨.none, he⟩, ⟨_, hit, rfl, rfl⟩, Nat.succ_ne_self _⟩, fresh2, q hz⟩
section
variable {c : Ctx} {F : Hp} {a b : Addr} {vs us : List V} {ps qs : List P}
theorem wk_enumT (h : SqT c.K F a vs) (r : Rps c F ps vs) : Wk c F (IteT c.K a) (enumP 0 ps) where
  stop := fun G l => ⟨vs, l.sqT h, by rw [enumP_len, rps_len r]; exact Nat.le_refl _⟩
  go := fun i G l hi => ⟨vs, vs[i]'(by rw [enumP_len] at hi; rw [← rps_len r]; exact hi), l.sqT h, List.getElem?_eq_getElem _⟩
  yld := fun i q F1 G x G' l1 l2 e y => by
    obtain ⟨T, y1, rfl, hT, rfl, hy⟩ := y
    obtain ⟨p, e1, rfl⟩ := enumP_get 0 ps i q e
    have rp := Rp.mono l1 _ _ (get_rp r e1 (hy vs ((l1.trans l2).sqT h)))
    have gr := gr_tup (vs := [.int ((i : Nat) : Int), y1]) l2 hT
    refine ⟨_, gr, ?_⟩
    unfold Rp
    refine ⟨T, _, rfl, .of (by rw [upd_same]), rps_cons ?_ (rps_cons (Rp.mono gr.le _ _ rp) rps_nil)⟩
    have z : ((0 + i : Nat) : Int) = (i : Int) := by simp
    rw [z]
    exact mk_int
/-- zip -/
def zipP : List P → List P → List P
  | p :: ps, q :: qs => .tup [p, q] :: zipP ps qs
  | _, _ => []
theorem zipP_len : ∀ (ps qs : List P), (zipP ps qs).length = min ps.length qs.length
  | [], _ => by simp [zipP]
  | _ :: _, [] => by simp [zipP]
  | p :: ps, q :: qs => by simp [zipP, zipP_len ps qs]
theorem zipP_get : ∀ (ps qs : List P) (i : Nat) (r : P), (zipP ps qs)[i]? = some r → ∃ p q, ps[i]? = some p ∧ qs[i]? = some q ∧ r = .tup [p, q]
  | [], _, i, r, e => by simp [zipP] at e
  | _ :: _, [], i, r, e => by simp [zipP] at e
  | p :: ps, q :: qs, 0, r, e => by
    simp [zipP] at e
    exact ⟨p, q, rfl, rfl, e.symm⟩
  | p :: ps, q :: qs, i + 1, r, e => by
    obtain ⟨p', q', h1, h2, h3⟩ := zipP_get ps qs i r (by simpa [zipP] using e)
    exact ⟨p', q', by simpa using h1, by simpa using h2, h3⟩
theorem wk_zip (h : SqL c.K F a vs) (h' : SqL c.K F b us) (r : Rps c F ps vs) (r' : Rps c F qs us) : Wk c F (Itz c.K a b) (zipP ps qs) where
  stop := fun G l => ⟨vs, us, l.sqL h, l.sqL h', by have := rps_len r; have := rps_len r'; rw [zipP_len]; omega⟩
  go := fun i G l hi => by
    have h1 := rps_len r
    have h2 := rps_len r'
    rw [zipP_len] at hi
    exact ⟨vs, us, vs[i]'(by omega), us[i]'(by omega), l.sqL h, l.sqL h', List.getElem?_eq_getElem _, List.getElem?_eq_getElem _⟩
  yld := fun i q F1 G x G' l1 l2 e y => by
    obtain ⟨T, y1, y2, rfl, hT, rfl, hy, hy'⟩ := y
    obtain ⟨p, p', e1, e2, rfl⟩ := zipP_get ps qs i q e
    have rp := Rp.mono l1 _ _ (get_rp r e1 (hy vs ((l1.trans l2).sqL h)))
    have rp' := Rp.mono l1 _ _ (get_rp r' e2 (hy' us ((l1.trans l2).sqL h')))
    have gr := gr_tup (vs := [y1, y2]) l2 hT
    exact ⟨_, gr, mk_tup (by rw [upd_same]) (rps_cons (Rp.mono gr.le _ _ rp) (rps_cons (Rp.mono gr.le _ _ rp') rps_nil))⟩
theorem wk_zipT (h : SqT c.K F a vs) (h' : SqT c.K F b us) (r : Rps c F ps vs) (r' : Rps c F qs us) : Wk c F (RZ.ItzT c.K a b) (zipP ps qs) where
  stop := fun G l => ⟨vs, us, l.sqT h, l.sqT h', by have := rps_len r; have := rps_len r'; rw [zipP_len]; omega⟩
  go := fun i G l hi => by
    have h1 := rps_len r
    have h2 := rps_len r'
    rw [zipP_len] at hi
    exact ⟨vs, us, vs[i]'(by omega), us[i]'(by omega), l.sqT h, l.sqT h', List.getElem?_eq_getElem _, List.getElem?_eq_getElem _⟩
  yld := fun i q F1 G x G' l1 l2 e y => by
    obtain ⟨T, y1, y2, rfl, hT, rfl, hy, hy'⟩ := y
    obtain ⟨p, p', e1, e2, rfl⟩ := zipP_get ps qs i q e
    have rp := Rp.mono l1 _ _ (get_rp r e1 (hy vs ((l1.trans l2).sqT h)))
    have rp' := Rp.mono l1 _ _ (get_rp r' e2 (hy' us ((l1.trans l2).sqT h')))
    have gr := gr_tup (vs := [y1, y2]) l2 hT
    exact ⟨_, gr, mk_tup (by rw [upd_same]) (rps_cons (Rp.mono gr.le _ _ rp) (rps_cons (Rp.mono gr.le _ _ rp') rps_nil))⟩
end
def enumAR (ps : List P) : M (List P) := fun π => match ps with
  | [q] => (match seqItems q with
    | some qs => .ok (enumP 0 qs) π
    | none => .bad)
  | _ => .bad
def enumAF (fa : M (List P)) : M (List P) := fun π => (fa π).bind enumAR
def zipR (ps : List P) : M (List P) := fun π => match ps with
  | [.lst ps, .lst qs] => if ps.length ≤ 1000000 then .ok (zipP ps qs) π else .bad
  | [.tup ps, .tup qs] => if ps.length ≤ 1000000 then .ok (zipP ps qs) π else .bad
  | _ => .bad
def zipF (fa : M (List P)) : M (List P) := fun π => (fa π).bind zipR
section
variable {X : Cx} {c : Ctx} {w : Wi} {e e2 : Expr} {p pos tpos : Pos} {elts : List Expr} {kk : Nat} {fa : M (List P)}
theorem i_enumA (hK : X.K = c.K) (hg : Gl X "enumerate") (hm : X.mg "enumerate" = none) (ha : PA X [e] (tAs c w fa)) (hs : starEach [e] X.env = [(false, eval e X.env)] := by rfl) :
    PI X (.Tuple elts kk tpos) (.Call (.Name "enumerate" p) [e] [] pos) (tI c w (enumAF fa)) :=
  pi_weak (pi_enumA hg hm ha hs) fun σ H R ⟨F, π, gg, s, po⟩ => by
    refine ⟨F, π, gg, s, (Po.split po).mono fun ps π1 F1 H1 t1 s1 p1 vs hr => ?_⟩
    rw [hK]
    unfold enumAR at p1
    split at p1
    · rename_i q
      obtain ⟨v, us, rfl, h1, h2⟩ := rps_inv hr
      rw [rps_nil_inv h2]
      cases q with
      | lst qs =>
        obtain ⟨a, xs, rfl, h3, h4⟩ := rp_lst h1
        exact ⟨a, xs, rfl, .inl ⟨.of (s1.le.lst h3), fun hz => p1 F1 H1 .refl s1 _ (wk_enum (.of h3) h4) (by rw [enumP_len, rps_len h4]; exact hz)⟩⟩
      | tup qs =>
        obtain ⟨a, xs, rfl, h3, h4⟩ := rp_tup h1
        exact ⟨a, xs, rfl, .inr ⟨s1.le.sqT h3, fun hz => p1 F1 H1 .refl s1 _ (wk_enumT h3 h4) (by rw [enumP_len, rps_len h4]; exact hz)⟩⟩
      | nt qs =>
        obtain ⟨a, o, xs, rfl, hd, h3, h4⟩ := rp_nt h1
        have h5 : SqT c.K F1 a xs := .inl (.inr ⟨o, h3⟩)
        exact ⟨a, xs, rfl, .inr ⟨s1.le.sqT h5, fun hz => p1 F1 H1 .refl s1 _ (wk_enumT h5 h4) (by rw [enumP_len, rps_len h4]; exact hz)⟩⟩
      | _ => exact p1.elim
    · exact p1.elim
theorem i_zip (hK : X.K = c.K) (hg : Gl X "zip") (hm : X.mg "zip" = none) (ha : PA X [e, e2] (tAs c w fa))
    (hs : starEach [e, e2] X.env = (false, eval e X.env) :: starEach [e2] X.env := by rfl) (hpl : (backTo pos (starEach [e2] X.env)).any (·.1) = false := by rfl) :
    PI X (.Tuple elts kk tpos) (.Call (.Name "zip" p) [e, e2] [] pos) (tI c w (zipF fa)) :=
  pi_weak (RZ.pi_zipA hg hm ha hs hpl) fun σ H R ⟨F, π, gg, s, po⟩ => by
    refine ⟨F, π, gg, s, (Po.split po).mono fun ps π1 F1 H1 t1 s1 p1 vs hr => ?_⟩
    rw [hK]
    unfold zipR at p1
    split at p1
    · rename_i qs rs
      obtain ⟨v, us, rfl, h1, h2⟩ := rps_inv hr
      obtain ⟨v', us', rfl, h1', h2'⟩ := rps_inv h2
      rw [rps_nil_inv h2']
      obtain ⟨a, xs, rfl, h3, h4⟩ := rp_lst h1
      obtain ⟨b, ys, rfl, h5, h6⟩ := rp_lst h1'
      by_cases z : qs.length ≤ 1000000
      · rw [if_pos z] at p1
        exact ⟨a, b, xs, ys, rfl, .inl ⟨.of (s1.le.lst h3), .of (s1.le.lst h5), p1 F1 H1 .refl s1 _ (wk_zip (.of h3) (.of h5) h4 h6) (by rw [zipP_len, sizeLine_eq]; omega)⟩⟩
      · rw [if_neg z] at p1; exact p1.elim
    · rename_i qs rs
      obtain ⟨v, us, rfl, h1, h2⟩ := rps_inv hr
      obtain ⟨v', us', rfl, h1', h2'⟩ := rps_inv h2
      rw [rps_nil_inv h2']
      obtain ⟨a, xs, rfl, h3, h4⟩ := rp_tup h1
      obtain ⟨b, ys, rfl, h5, h6⟩ := rp_tup h1'
      by_cases z : qs.length ≤ 1000000
      · rw [if_pos z] at p1
        exact ⟨a, b, xs, ys, rfl, .inr ⟨s1.le.sqT h3, s1.le.sqT h5, p1 F1 H1 .refl s1 _ (wk_zipT h3 h5 h4 h6) (by rw [zipP_len, sizeLine_eq]; omega)⟩⟩
      · rw [if_neg z] at p1; exact p1.elim
    · exact p1.elim
end
end PV

namespace PV
open PySem PySem.Spec L2 PyProof.Rows

/-! ### x += e, ints -/
def augR (i : Nat) (f : Int → Int → Int) (p : P) (r : Rs) : M Fl := fun π => match p, r with
  | .int a, .val (.int b) => setR i (.val (.int (f a b))) π
  | _, _ => .bad
def augF (i : Nat) (f : Int → Int → Int) (fe : M Rs) : M Fl := fun π => match π[i]? with
  | some (.val p) => (fe π).bind (augR i f p)
  | _ => .bad
section
variable {X : Cx} {c : Ctx} {w : Ws} {e : Expr} {pos pos' : Pos} {fe : M Rs} {op : Operator} {f : Int → Int → Int}
theorem s_aug {i : Nat} {x : Str} (ho : PIp X op (ipI f)) (hN : X.N.Nodup) (hi : X.N[i]? = some x) (hx : Loc X.env.scope x) (he : PE X e (tE c w fe))
    (hf : X.fn x = true ∨ X.env.scope.names.lookup x = some .local := by first | exact .inl rfl | exact .inr rfl | assumption) : PS X (.AugAssign (.Name x pos') op e pos) (tS c w (augF i f fe)) :=
  ps_weak (ps_aug hN hi hx he ho hf) fun D σ H ⟨F, π, gg, s, po⟩ => by
    unfold augF at po
    cases q : π[i]? with
    | none => rw [q] at po; exact po.elim
    | some sl =>
      rw [q] at po
      cases sl with
      | val p =>
        obtain ⟨v, h1, h2⟩ := s.vl i p q
        refine ⟨v, h1, F, π, gg, s, ?_⟩
        cases e0 : fe π with
        | bad => simp only [e0] at po; exact po
        | exc C ps π1 => simp only [e0] at po; exact fun F' H' d t s => po F' σ H' d t s
        | ok r π1 =>
          simp only [e0] at po
          intro F1 H1 t1 s1 y hy
          have p1 : PoS c w.W F π σ H (augR i f p r π1) (flK c D π σ H) := po
          unfold augR at p1
          split at p1
          · rename_i a b
            have e1 := rp_int h2
            have e2 := rp_int (show Rp c F1 (.int b) y from hy)
            subst e1 e2
            refine ⟨a, b, rfl, rfl, ?_⟩
            obtain ⟨π', k⟩ := set_post s1 (show RR c π H F1 π1 σ H1 (.val (.int (f a b))) (.int (f a b)) from (show Rp c F1 (.int (f a b)) (.int (f a b)) from mk_int)) t1 p1
            exact k
          · exact p1.elim
      | _ => exact po.elim
end
/-! ### x, y, z = e, e', e'' -/
def Rs.isOwn : Rs → Bool
  | .own _ => true
  | _ => false
def set3R (i j l : Nat) (r1 r2 r3 : Rs) : M Fl := fun π => (setR i r1 π).bind fun _ π1 => (setR j r2 π1).bind fun _ π2 => setR l r3 π2
def par3R (i j l : Nat) (rs : List Rs) : M Fl := fun π => match rs with
  | [r1, r2, r3] => if (r1.isOwn && r2.isOwn || r1.isOwn && r3.isOwn || r2.isOwn && r3.isOwn) = false then set3R i j l r1 r2 r3 π else .bad
  | _ => .bad
def par3F (i j l : Nat) (fa : M (List Rs)) : M Fl := fun π => (fa π).bind (par3R i j l)
theorem rq_next {c : Ctx} {F H : Hp} {π π' : En} {σ σ' : L2.St} {r1 r2 : Rs} {v u : V} (h : RQ c F π σ H r2 u) (o3 : ∀ b, Own π' σ' b → Own π σ b ∨ (v = .ref b ∧ ∃ o, r1 = .own o)) (hno : (r1.isOwn && r2.isOwn) = false) : RQ c F π' σ' H r2 u := by
  cases r2 with
  | val p => exact h
  | bor k => trivial
  | own o =>
    obtain ⟨a, e, h1, h2, h3⟩ := h
    refine ⟨a, e, h1, fun z => ?_, h3⟩
    rcases o3 a z with q | ⟨_, o', q⟩
    · exact h2 q
    · subst q; simp [Rs.isOwn] at hno
theorem bind_ok {c : Ctx} {W : WX} {F0 H0 : Hp} {π0 : En} {σ0 : L2.St} {o : Out Fl} {K : Fl → En → Hp → L2.St → Hp → Prop} (h : PoS c W F0 π0 σ0 H0 o K) : PoS c W F0 π0 σ0 H0 (o.bind fun fl π => .ok fl π) K := by
  cases o with
  | ok a π => exact h
  | exc C ps π => exact h
  | bad => exact h
section
variable {X : Cx} {c : Ctx} {w : Ws} {a b d : Expr} {x y z : Str} {px py pz pt pos : Pos} {kt k2 pt2} {i j l : Nat} {fa : M (List Rs)}
theorem s_par3 (hc : X.calm = true) (hN : X.N.Nodup) (hi : X.N[i]? = some x) (hj : X.N[j]? = some y) (hl : X.N[l]? = some z) (hij : i ≠ j) (hil : i ≠ l) (hjl : j ≠ l)
    (hx : X.env.scope.names.lookup x = some .local) (hy : X.env.scope.names.lookup y = some .local) (hz : X.env.scope.names.lookup z = some .local) (ha : PA X [a, b, d] (tR c w fa))
    (hw : swappedStores [.Tuple [.Name x px, .Name y py, .Name z pz] kt pt] (.Tuple [a, b, d] k2 pt2) X.env = pure (some [x, y, z]))
    (hs : swapsWithSole [.Tuple [.Name x px, .Name y py, .Name z pz] kt pt] (.Tuple [a, b, d] k2 pt2) pos.line X.env = pure false := by rfl) :
    PS X (.Assign [.Tuple [.Name x px, .Name y py, .Name z pz] kt pt] (.Tuple [a, b, d] k2 pt2) pos) (tS c w (par3F i j l fa)) :=
  ps_weak (ps_par3 hc hN hi hj hl hij hil hjl hx hy hz ha hw hs) fun D σ H ⟨F, π, gg, s, po⟩ => by
    refine ⟨F, π, gg, s, ?_⟩
    unfold par3F at po
    cases e0 : fa π with
    | bad => rw [e0] at po; exact po
    | exc C ps π1 => rw [e0] at po; exact fun F' H' d t s => po F' σ H' d t s
    | ok rs π1 =>
    rw [e0] at po
    intro F1 H1 t1 s1 vs hv
    have p1 : PoS c w.W F π σ H (par3R i j l rs π1) (flK c D π σ H) := po
    unfold par3R at p1
    split at p1
    · rename_i r1 r2 r3
      obtain ⟨v1, vs1, rfl, h1, hv1⟩ := hv
      obtain ⟨v2, vs2, rfl, h2, hv2⟩ := hv1
      obtain ⟨v3, vs3, rfl, h3, hv3⟩ := hv2
      have e3 : vs3 = [] := hv3
      subst e3
      refine ⟨v1, v2, v3, rfl, ?_⟩
      by_cases hno : (r1.isOwn && r2.isOwn || r1.isOwn && r3.isOwn || r2.isOwn && r3.isOwn) = false
      case neg => rw [if_neg hno] at p1; exact p1.elim
      rw [if_pos hno] at p1
      have n12 : (r1.isOwn && r2.isOwn) = false := by cases q1 : r1.isOwn <;> cases q2 : r2.isOwn <;> simp_all
      have n13 : (r1.isOwn && r3.isOwn) = false := by cases q1 : r1.isOwn <;> cases q2 : r3.isOwn <;> simp_all
      have n23 : (r2.isOwn && r3.isOwn) = false := by cases q1 : r2.isOwn <;> cases q2 : r3.isOwn <;> simp_all
      have fr : ∀ {r : Rs} {v : V}, RR c π H F1 π1 σ H1 r v → ∀ a o, v = .ref a → r = .own o → Fr0 π σ H a := fun {r v} h a o ev er => by
        subst er
        obtain ⟨a', e4, _, _, _, fr⟩ := h
        rw [ev] at e4; cases e4
        exact fr
      unfold set3R at p1
      obtain ⟨π2, e1, s2, t2, o2⟩ := setR_step s1 h1.rq p1
      rw [e1] at p1
      have T2 := t2 F π σ H t1 (fr h1)
      have p2 : PoS c w.W F π σ H ((setR j r2 π2).bind fun _ π2 => setR l r3 π2) (flK c D π σ H) := p1
      obtain ⟨π3, e2, s3, t3, o3⟩ := setR_step s2 (rq_next h2.rq o2 n12) p2
      rw [e2] at p2
      have T3 := t3 F π σ H T2 (fr h2)
      have p3 : PoS c w.W F π σ H (setR l r3 π3) (flK c D π σ H) := p2
      obtain ⟨π4, e4, s4, t4, o4⟩ := setR_step s3 (rq_next (rq_next h3.rq o2 n13) o3 n23) (bind_ok p3)
      rw [e4] at p3
      exact p3 F1 _ H1 (t4 F π σ H T3 (fr h3)) s4
    · exact p1.elim
end
end PV

namespace PV
open PySem PySem.Spec L2 PyProof.Rows

/-! ### lists of values -/
def nilV : M (List P) := fun π => .ok [] π
def consV (f : M P) (g : M (List P)) : M (List P) := fun π => (f π).bind fun p π1 => (g π1).bind fun ps π2 => .ok (p :: ps) π2
section
variable {X : Cx} {c : Ctx} {w : Wi} {e : Expr} {es : List Expr} {f : M P} {g : M (List P)}
theorem pv_nil : PA X [] (tAs c w nilV) := pa_weak pa_nil fun σ H Q ⟨F, π, gg, s, po⟩ => po F H .refl s [] rps_nil
theorem pv_cons (ha : PE X e (tV c w f)) (hr : PA X es (tAs c w g)) (hs : starEach (e :: es) X.env = (false, eval e X.env) :: starEach es X.env := by rfl) : PA X (e :: es) (tAs c w (consV f g)) :=
  pa_weak (pa_cons ha hr hs) fun σ H Q ⟨F, π, gg, s, po⟩ => by
    refine ⟨F, π, gg, s, (Po.split po).mono fun p π1 F1 H1 t1 s1 p1 v hv => ⟨F1, π1, w.mono _ _ t1.le gg, s1, (Po.split p1).mono fun ps π2 F2 H2 t2 s2 p2 vs hvs => ?_⟩⟩
    exact p2 F2 H2 .refl s2 _ (rps_cons (Rp.mono t2.le _ _ hv) hvs)
end
theorem len_suc {fa : M (List Rs)} {n : Nat} (h : ∀ π rs π', fa π = .ok rs π' → rs.length = n) : ∀ π rs π', fa π = .ok rs π' → rs.length + 1 = n + 1 := fun π rs π' e => by rw [h π rs π' e]
theorem p_gstrE {X : Cx} {c : Ctx} {w : Wi} {x : Str} {pos : Pos} {s : Str} (hg : Gl X x) (h : ∃ t, X.mg x = some (.str s t)) (hd : (x == ("__debug__" : Str)) = false := by decide) : PE X (.Name x pos) (tE c w (cF (.str s))) := by
  obtain ⟨t, h⟩ := h
  exact pe_weak (pe_glob (v := .str s) hg h ⟨t, rfl⟩ hd) (tC_of fun _ => mk_str)
section
variable {X : Cx} {c : Ctx} {w : Wi} {a b : Expr} {pos : Pos} {f g : M P} {j k C0 : Nat} {Fn : FN}
theorem p_toeq (Cq : Cm X.prog X.w X.K X.mg X.base c j C0 "__eq__" 2 Fn) (O : OwnC X.K (c.cls C0)) (hK : X.K = c.K) (hj : j ≤ k) (hgd : X.A.guards = some []) (hr : Room k X.A) (ha : PE X a (tV c w f)) (hb : PE X b (tV c w g)) (hm : behindInMarks .Eq b = false := by rfl) :
    PT X (.Compare a [.Eq] [b] pos) (tT c w (tstF (oeF C0 Fn false f g))) := by
  obtain ⟨f', fd, ps, G, hm', hb'⟩ := Cq.ex
  exact pt_weak (pt_cmpR (op_oeq G hm' hb' hgd (hr.mono hj)) ha hb hm) (tst_weak fun σ H Q h => oe_weak hK (hK ▸ O) h)
theorem p_tone (Cq : Cm X.prog X.w X.K X.mg X.base c j C0 "__eq__" 2 Fn) (O : OwnC X.K (c.cls C0)) (hne : PySem.W.findIn X.K (.ref (c.cls C0)) "__ne__" = some (some (.builtin "object.__ne__"))) (hK : X.K = c.K) (hj : j + 1 ≤ k) (hgd : X.A.guards = some []) (hr : Room k X.A) (ha : PE X a (tV c w f)) (hb : PE X b (tV c w g)) (hm : behindInMarks .NotEq b = false := by rfl) :
    PT X (.Compare a [.NotEq] [b] pos) (tT c w (tstF (oeF C0 Fn true f g))) := by
  obtain ⟨f', fd, ps, G, hm', hb'⟩ := Cq.ex
  exact pt_weak (pt_cmpR (op_one G hm' hne O.hm hb' hgd (hr.mono hj)) ha hb hm) (tst_weak fun σ H Q h => oe_weak hK (hK ▸ O) h)
end
/-! ### where methods stand -/
theorem atM_mk {K : PySem.W.Frag} {h : Heap} {C : Addr} {m qual : Str} {st : Stmt} {ps : List Str} {f : Addr} {od an : Option Addr} {sl : Array (Option Value)} {oc kV dc pm cd ct : Value}
    (a : PySem.W.findIn K (.ref C) m = some (some (.ref f))) (i : PySem.W.isFn K (.ref f) = true) (l : K.lookup f = some ⟨oc, od, .func (PySem.W.fnOf m qual (defArgs st) (defBody st) (defScope st) .none kV dc pm an cd ct), sl⟩) (c : PySem.W.codeIn K cd qual = true) (k : PySem.W.keepIn K (.ref f) = true)
    (hb : ∀ (kV doc pm : Value) (an : Option Addr) (cdv ct : Value) (us : List Value), us.length = ps.length → bindArgs (PySem.W.fnOf m qual (defArgs st) (defBody st) (defScope st) .none kV doc pm an cdv ct) ⟨us, []⟩ = pure (ps.zip us)) : AtM K C m qual st ps :=
  ⟨f, _, fun_mk (st := st) l c k, ⟨a, i, k⟩, (fun_mk (st := st) l c k).binds hb⟩
theorem atI_mk {K : PySem.W.Frag} {mg : Str → Option Value} {h : Heap} {C : Addr} {x qual : Str} {st : Stmt} {ps : List Str} {f : Addr} {od an : Option Addr} {sl : Array (Option Value)} {oc kV dc pm cd ct : Value} (X : K.In h) (G : h.Ns mainGlobals mg)
    (mk : PySem.W.makesIn K C = true) (kc : PySem.W.keepIn K (.ref C) = true) (aC : PySem.W.nsIn K mainGlobals x = some (some (.ref C)))
    (a : PySem.W.findIn K (.ref C) "__init__" = some (some (.ref f))) (i : PySem.W.isFn K (.ref f) = true) (l : K.lookup f = some ⟨oc, od, .func (PySem.W.fnOf "__init__" qual (defArgs st) (defBody st) (defScope st) .none kV dc pm an cd ct), sl⟩) (c : PySem.W.codeIn K cd qual = true) (k : PySem.W.keepIn K (.ref f) = true)
    (hb : ∀ (kV doc pm : Value) (an : Option Addr) (cdv ct : Value) (us : List Value), us.length = ps.length → bindArgs (PySem.W.fnOf "__init__" qual (defArgs st) (defBody st) (defScope st) .none kV doc pm an cdv ct) ⟨us, []⟩ = pure (ps.zip us)) : AtI K mg C x qual st ps :=
  ⟨f, _, fun_mk (st := st) l c k, ⟨mk, a, i, kc⟩, PySem.W.mg_of X G aC, (fun_mk (st := st) l c k).binds hb⟩
end PV

set_option maxHeartbeats 2000000
namespace PV
open PySem PySem.Spec L2 PyProof.Rows
/-! ### sorted, over data -/
theorem collect_tup {prog : Program} {w : World} {A : Around} {E : Value → Shared → Prop} {s : Shared} {l : Addr} {vs : List Value} {Q : List Value → Shared → Prop} (hl : IsTup s.heap l vs.toArray)
    (h : Q vs { s with heap := (s.heap.push (seqObj "list" #[] 0)).update s.heap.objs.size (Obj.mapSeq (· ++ vs.toArray)) }) (hsz : vs.length ≤ sizeLine) :
    wpAny (model prog w) A (collect (.ref l)) Q E s := by
  obtain ⟨o, ho, hc, n, hd⟩ := id hl
  unfold collect
  refine wpAny_bind (wpAny_runValue (codeAny_builtin entry_proto_collect' ?_))
  show wpAny _ _ (do again (.builtin "list.__iadd__" ⟨[← newList [], .ref l], []⟩)) _ _ s
  refine wpAny_bind (wpAny_newList (wpAny_pure ⟨Code.quiet_builtin _ (by decide +kernel), codeAny_builtin entry_list_iadd' ?_⟩))
  show wpAny _ _ (Builtin.List.listExtendWith (.ref s.heap.objs.size) (.ref l) (.ref s.heap.objs.size)) _ _ { s with heap := s.heap.push (seqObj "list" #[] 0) }
  unfold Builtin.List.listExtendWith
  have ho' : (s.heap.push (seqObj "list" #[] 0)).get? l = some o := Heap.get?_push_of_some _ ho
  refine wpAny_bind (wpAny_typeOf (T := "tuple") ⟨o, ho', hc⟩ ?_)
  have ht : (Value.type "tuple" == Value.type "tuple") = true := by rfl
  rw [if_pos (by rw [ht]; simp)]
  refine wpAny_bind (listItems_at ho' hd ?_)
  refine wpAny_bind (listItems_at (xs := #[]) (n := 0) (Heap.get?_push_size _ rfl) rfl ?_)
  rw [if_neg (by simp)]
  refine wpAny_bind (listUpdate_at (xs := #[]) (n := 0) (Heap.get?_push_size _ rfl) rfl ?_ (Nat.zero_le _) (by show (#[] ++ vs.toArray).size ≤ sizeLine + 1; simp only [Array.size_append, List.size_toArray, List.length_nil]; omega))
  refine wpAny_pure ?_
  show wpAny (model prog w) A (do
      let o ← load s.heap.objs.size
      match o.data with
      | .seq xs _ => pure xs.toList
      | _ => unsupported "internal:collect") Q E { s with heap := (s.heap.push (seqObj "list" #[] 0)).update s.heap.objs.size (Obj.mapSeq (· ++ vs.toArray)) }
  refine wpAny_bind (wpAny_load (get?_update_seq (Heap.get?_push_size _ rfl) _) ?_)
  show wpAny _ _ (pure ((#[] : Array Value) ++ vs.toArray).toList) Q E _
  rw [show ((#[] : Array Value) ++ vs.toArray).toList = vs by simp]
  exact wpAny_pure h
section
open PySem.W PySem.Calls
variable {prog : Program} {w : World} {A : Around} {E : Value → Shared → Prop} {s : Shared} {β : Type} {vs : List Value} {bs : List β} {enc : β → PyData} {R : Value → β → Prop}
theorem sorted_data_tup {l : Addr} {Q : Value → Shared → Prop} (hl : IsTup s.heap l vs.toArray) (e : EachIs R vs bs) (er : EachIs (fun v b => ∃ as, Reads s.heap v (enc b) as) vs bs) (hal : AllAlike (bs.map enc)) (hk : Sortable (bs.map enc)) (hL : bs.length ≤ sizeLine)
    (hu : ∀ b, b ∈ bs → A.units + 2 + (enc b).depth < cLine) (h : ∀ out, out.length = bs.length → EachIs R out (bs.mergeSort (dataLe false enc)) → Q (.ref (s.heap.objs.size + 1)) { s with heap := sortedAll s.heap vs (List.toArray out) }) :
    wpAny (model prog w) A (call (.builtin "sorted") [.ref l]) Q E s := by
  have er' : EachIs (fun v b => ∃ as, Reads (sortingHeap (copyHeap s.heap vs) (s.heap.objs.size + 1) vs) v (enc b) as) vs bs := er.mono fun _ _ ⟨as, r⟩ => ⟨as, PyProof.Rows.Reads.keeps (fun _ _ => sorting_copy_old) r⟩
  have hL' : vs.length ≤ sizeLine := by rw [e.length]; exact hL
  have S := SortsAt.data (prog := prog) (w := w) (A := A.in1.in1) (s := { s with heap := sortingHeap (copyHeap s.heap vs) (s.heap.objs.size + 1) vs }) (each_map (R := fun v d => ∃ as, Reads (sortingHeap (copyHeap s.heap vs) (s.heap.objs.size + 1) vs) v d as) enc er') hal hk (bound_map (A := A.in1.in1) hu)
  have hq := h _ (by rw [sortVals_length false rfl]; exact e.length) (sortVals_data false e er' hal)
  refine call_function_entry_kw kind_sorted plain_sorted entry_sorted (args_sorted1 _) ?_
  unfold Builtin.«sorted»
  refine wpAny_bind (m := checkCount "sorted" 1 1 _) (wpAny_pure ?_)
  refine wpAny_bind (collect_tup hl ?_ hL')
  refine wpAny_bind (wpAny_newList ?_ hL')
  have hsz : ((s.heap.push (seqObj "list" #[] 0)).update s.heap.objs.size (Obj.mapSeq (· ++ vs.toArray))).objs.size = s.heap.objs.size + 1 := by
    rw [Heap.size_update, size_push']
  show wpAny _ _ _ _ _ { s with heap := copyHeap s.heap vs }
  rw [hsz]
  refine wpAny_bind (wpAny_holding (wpAny_call_entry_kw slot_list_sort ⟨_, copyHeap_at s.heap vs, rfl⟩ entry_list_sort ?body (args_list_sort _)))
  case body =>
    show wpAny (model prog w) A.in1.in1 (Builtin.«list.sort» ⟨[.ref (s.heap.objs.size + 1)], []⟩) _ _ _
    refine wpAny_mono (list_sort_vals (s := { s with heap := copyHeap s.heap vs }) (P := fun f s' => f = .done (.ret .none) ∧ Q (.ref (s.heap.objs.size + 1)) s') (copyHeap_at s.heap vs) S hL' ⟨rfl, hq⟩) (fun f s' hf => ?_) fun _ _ e => e
    obtain ⟨rfl, hq⟩ := hf
    exact ⟨_, rfl, wpAny_pure ⟨_, rfl, hq⟩⟩
end
abbrev srt {β : Type} (k : β → PyData) (bs : List β) : List β := bs.mergeSort (PySem.W.dataLe false k)
def rSortD (K : PySem.W.Frag) : List V → Hp → VK → Prop := fun vs H Q => ∃ (a : Addr) (bs : List (PyData × V)), vs = [.ref a] ∧ (SqL K H a (bs.map (·.2)) ∨ SqT K H a (bs.map (·.2))) ∧ (∀ b ∈ bs, Dp K H b.2 b.1) ∧ PySem.W.AllAlike (bs.map (·.1)) ∧ PySem.W.Sortable (bs.map (·.1)) ∧ (∀ b ∈ bs, b.1.depth ≤ 60) ∧
  ∀ p, H p = none → Q (.ref p) (L2.upd H p (.lst ((srt (fun b : PyData × V => b.1) bs).map (·.2))))
theorem each_vals {bs : List (PyData × V)} {us : List Value} (r : Vals (bs.map (·.2)) us) : PySem.W.EachIs (fun u (b : PyData × V) => RelV b.2 u) us bs := by
  induction bs generalizing us with
  | nil => cases r; exact .nil
  | cons b bs ih => cases r with | cons h t => exact .cons h (ih t)
theorem vals_each {bs : List (PyData × V)} {us : List Value} (r : PySem.W.EachIs (fun u (b : PyData × V) => RelV b.2 u) us bs) : Vals (bs.map (·.2)) us := by
  induction r with
  | nil => exact .nil
  | cons h t ih => exact .cons h ih
theorem each_and {α β : Type} {R S : α → β → Prop} {as : List α} {bs : List β} (h : PySem.W.EachIs R as bs) (k : ∀ a b, b ∈ bs → R a b → S a b) : PySem.W.EachIs S as bs := by
  induction h with
  | nil => exact .nil
  | cons h t ih => exact .cons (k _ _ List.mem_cons_self h) (ih fun a b hb => k a b (List.mem_cons_of_mem _ hb))
theorem cr_sortedD {X : Cx} (hu : X.A.units + 65 < cLine) : CallR X (.builtin "sorted") (rSortD X.K) := by
  intro pins s σ H vs us Q I r h
  obtain ⟨a, bs, rfl, hs, hd, hal, hk, hdp, q⟩ := h
  rw [Vals.ref1 r]
  have fin : ∀ its : List Value, Vals (bs.map (·.2)) its → bs.length ≤ sizeLine → ∀ out : List Value, out.length = bs.length → PySem.W.EachIs (fun u (b : PyData × V) => RelV b.2 u) out (srt (fun b : PyData × V => b.1) bs) → L2.EP X pins σ Q (.ref (s.heap.objs.size + 1)) { s with heap := sortedAll s.heap its (List.toArray out) } := fun its rv hz out hl he => by
    obtain ⟨ep, he'⟩ := PyProof.Rows.sortedAll_at s.heap its out.toArray
    have rv' := vals_each he
    have hlen : ((srt (fun b : PyData × V => b.1) bs).map (·.2)).length ≤ sizeLine := by rw [List.length_map, List.length_mergeSort]; exact hz
    exact ⟨.ref _, L2.upd H (s.heap.objs.size + 1) (.lst ((srt (fun b : PyData × V => b.1) bs).map (·.2))), I.laid (t' := s.toks) (fun _ _ => PyProof.Rows.sortedAll_old) (Nat.le_succ _) ⟨hlen, out, ep, rv', he'⟩, rfl, q _ (I.hok.fresh (Nat.le_succ _))⟩
  have er : ∀ its : List Value, Vals (bs.map (·.2)) its → PySem.W.EachIs (fun v (b : PyData × V) => ∃ as, Reads s.heap v b.1 as) its bs := fun its rv =>
    each_and (each_vals rv) fun u b hb hr => Dp.reads I b.1 b.2 u (hd b hb) hr
  have hu' : ∀ b, b ∈ bs → X.A.units + 2 + b.1.depth < cLine := fun b hb => by have := hdp b hb; omega
  rcases hs with hs | hs
  · obtain ⟨its, rv, hl, hz⟩ := I.list hs
    rw [List.length_map] at hz
    exact PySem.W.sorted_data (enc := fun b : PyData × V => b.1) hl.isList (each_vals rv) (er its rv) hal hk hz hu' fun out hl he => fin its rv hz out hl he
  · obtain ⟨its, rv, hl, hz⟩ := I.tuple hs
    rw [List.length_map] at hz
    exact sorted_data_tup (enc := fun b : PyData × V => b.1) hl (each_vals rv) (er its rv) hal hk hz hu' fun out hl he => fin its rv hz out hl he
/-- rows that sorted takes -/
def tupC : P → Bool
  | .tup (_ :: _) => true
  | _ => false
def plnC : P → Bool
  | .int _ => true
  | .str _ => true
  | .bl _ => true
  | .lst _ => true
  | _ => false
def srtOk (ps : List P) : Bool := (ps.all (dat 59)) && (ps.all fun p => ps.all fun q => PySem.W.alike (toD p) (toD q)) && (ps.all tupC || ps.all plnC)
def sortP : List P → Option Rv
  | [.lst ps] => if srtOk ps = true then some (.own (.lst (srt toD ps))) else none
  | [.tup ps] => if srtOk ps = true then some (.own (.lst (srt toD ps))) else none
  | _ => none
theorem rps_zip {c : Ctx} {H : Hp} : ∀ {ps : List P} {vs : List V}, Rps c H ps vs → (ps.zip vs).map (·.1) = ps ∧ (ps.zip vs).map (·.2) = vs ∧ ∀ x ∈ ps.zip vs, Rp c H x.1 x.2
  | [], _, r => by rw [rps_nil_inv r]; simp
  | p :: ps, vs, r => by
    obtain ⟨v, t, rfl, h1, h2⟩ := rps_inv r
    obtain ⟨a, b, d⟩ := rps_zip h2
    refine ⟨by rw [List.zip_cons_cons, List.map_cons, a], by rw [List.zip_cons_cons, List.map_cons, b], fun x hx => ?_⟩
    rw [List.zip_cons_cons, List.mem_cons] at hx
    rcases hx with rfl | hx
    · exact h1
    · exact d x hx
theorem rps_of {c : Ctx} {H : Hp} : ∀ {zs : List (P × V)}, (∀ x ∈ zs, Rp c H x.1 x.2) → Rps c H (zs.map (·.1)) (zs.map (·.2))
  | [], _ => rps_nil
  | z :: zs, h => rps_cons (h z List.mem_cons_self) (rps_of fun x hx => h x (List.mem_cons_of_mem _ hx))
theorem srt_post {c : Ctx} {F H : Hp} {ps : List P} {vs : List V} (l : Le F H) (r : Rps c F ps vs) (hk : srtOk ps = true) : ∃ bs : List (PyData × V), bs.map (·.2) = vs ∧ (∀ b ∈ bs, Dp c.K H b.2 b.1) ∧ PySem.W.AllAlike (bs.map (·.1)) ∧ PySem.W.Sortable (bs.map (·.1)) ∧ (∀ b ∈ bs, b.1.depth ≤ 60) ∧
    Rps c F (srt toD ps) ((srt (fun b : PyData × V => b.1) bs).map (·.2)) := by
  obtain ⟨e1, e2, e3⟩ := rps_zip r
  unfold srtOk at hk
  simp only [Bool.and_eq_true, List.all_eq_true] at hk
  obtain ⟨⟨k1, k2⟩, k3⟩ := hk
  have mem1 : ∀ x ∈ ps.zip vs, x.1 ∈ ps := fun x hx => (List.of_mem_zip hx).1
  have ef : (ps.zip vs).map (fun x => toD x.1) = ps.map toD := by
    conv => rhs; rw [← e1]
    rw [List.map_map]; rfl
  refine ⟨(ps.zip vs).map fun x => (toD x.1, x.2), by rw [List.map_map]; exact e2, ?_, ?_, ?_, ?_, ?_⟩
  · intro b hb
    obtain ⟨x, hx, rfl⟩ := List.mem_map.mp hb
    exact dp_of 59 x.1 x.2 (k1 _ (mem1 x hx)) (Rp.mono l _ _ (e3 x hx))
  · rw [List.map_map]
    show PySem.W.AllAlike ((ps.zip vs).map fun x => toD x.1)
    rw [ef]
    intro d hd d' hd'
    obtain ⟨p, hp, rfl⟩ := List.mem_map.mp hd
    obtain ⟨q, hq, rfl⟩ := List.mem_map.mp hd'
    exact k2 p hp q hq
  · rw [List.map_map]
    show PySem.W.Sortable ((ps.zip vs).map fun x => toD x.1)
    rw [ef]
    rcases Bool.or_eq_true _ _ ▸ k3 with h | h
    · left
      intro d hd
      obtain ⟨p, hp, rfl⟩ := List.mem_map.mp hd
      have := List.all_eq_true.mp h p hp
      cases p with
      | tup xs =>
        cases xs with
        | nil => cases this
        | cons x xs => exact ⟨toD x, toDs xs, by rw [toD, toDs]⟩
      | _ => cases this
    · right
      intro d hd
      obtain ⟨p, hp, rfl⟩ := List.mem_map.mp hd
      have := List.all_eq_true.mp h p hp
      cases p <;> first | (cases this; done) | (unfold toD; exact ⟨by simp, by simp⟩)
  · intro b hb
    obtain ⟨x, hx, rfl⟩ := List.mem_map.mp hb
    have := (dat_lay 59 x.1 (k1 _ (mem1 x hx))).2
    show (toD x.1).depth ≤ 60
    omega
  · have s1 : (srt (fun x : P × V => toD x.1) (ps.zip vs)).map (·.1) = srt toD ps := by
      rw [show srt toD ps = srt toD ((ps.zip vs).map (·.1)) by rw [e1]]
      exact List.map_mergeSort fun a _ b _ => rfl
    have s2 : srt (fun b : PyData × V => b.1) ((ps.zip vs).map fun x => (toD x.1, x.2)) = (srt (fun x : P × V => toD x.1) (ps.zip vs)).map fun x => (toD x.1, x.2) := by
      symm
      exact List.map_mergeSort fun a _ b _ => rfl
    rw [s2, List.map_map, ← s1]
    exact rps_of fun x hx => e3 x (List.mem_mergeSort.mp hx)
theorem v_sort {c : Ctx} : CalV c (rSortD c.K) sortP := by
  intro F H ps xs res Q l h e k
  unfold sortP at e
  split at e
  · split at e
    · rename_i qs hk
      cases e
      obtain ⟨v, rfl, h1⟩ := rbs1 h
      obtain ⟨a, vs, rfl, q, r⟩ := h1.lst l
      obtain ⟨bs, b1, b2, b3, b4, b5, b6⟩ := srt_post l r hk
      exact ⟨a, bs, rfl, .inl (by rw [b1]; exact .of q), b2, b3, b4, b5, fun p hp => k _ _ _ (gr_lst l hp) (rn_lst l hp b6)⟩
    · cases e
  · split at e
    · rename_i qs hk
      cases e
      obtain ⟨v, rfl, h1⟩ := rbs1 h
      obtain ⟨a, vs, rfl, q, r, z⟩ := h1.tup l
      obtain ⟨bs, b1, b2, b3, b4, b5, b6⟩ := srt_post l r hk
      exact ⟨a, bs, rfl, .inr (by rw [b1]; exact q), b2, b3, b4, b5, fun p hp => k _ _ _ (gr_lst l hp) (rn_lst l hp b6)⟩
    · cases e
  · cases e
theorem bb_sorted : bootBuiltins "sorted" = some (.builtin "sorted") := by decide +kernel
end PV

set_option maxHeartbeats 2000000
namespace PV
open PySem PySem.Spec L2 PyProof.Rows
/-! ### min of a list of data: the item itself -/
theorem dpAll_of {K : PySem.W.Frag} {H : Hp} : ∀ {bs : List (PyData × V)}, (∀ b ∈ bs, Dp K H b.2 b.1) → DpAll K H (bs.map (·.2)) (bs.map (·.1))
  | [], _ => .nil
  | b :: bs, h => .cons (h b List.mem_cons_self) (dpAll_of fun x hx => h x (List.mem_cons_of_mem _ hx))
theorem minD_mem : ∀ (xs : List PyData) (x : PyData), PySem.W.minD x xs ∈ x :: xs
  | [], x => List.mem_singleton.mpr rfl
  | y :: xs, x => by
    unfold PySem.W.minD
    rw [List.foldl_cons]
    have := minD_mem xs (if PySem.W.dataLt y x = true then y else x)
    unfold PySem.W.minD at this
    rcases List.mem_cons.mp this with h | h
    · rw [h]
      by_cases z : PySem.W.dataLt y x = true
      · rw [if_pos z]; simp
      · rw [if_neg z]; simp
    · simp [h]
def rMinD (K : PySem.W.Frag) : List V → Hp → VK → Prop := fun vs H Q => ∃ (a : Addr) (b0 : PyData × V) (bt : List (PyData × V)), vs = [V.ref a] ∧ SqL K H a ((b0 :: bt).map (·.2)) ∧ (∀ b ∈ b0 :: bt, Dp K H b.2 b.1) ∧ PySem.W.AlikeAll ((b0 :: bt).map (·.1)) ∧ PyData.depthAll ((b0 :: bt).map (·.1)) ≤ 60 ∧
  ∀ b ∈ b0 :: bt, b.1 = PySem.W.minD b0.1 (bt.map (·.1)) → Q b.2 H
theorem cr_minD {X : Cx} (hc : X.calm = true) (hu : X.A.units + 65 < cLine) : CallR X (.builtin "min") (rMinD X.K) := by
  intro pins s σ H vs us Q I r h
  obtain ⟨a, b0, bt, rfl, hs, hd, hal, hdp, q⟩ := h
  obtain ⟨its, rv, hl, hz⟩ := I.list hs
  rw [Vals.ref1 r]
  obtain ⟨as, hr⟩ := Dp.readsAll I _ _ its (dpAll_of hd) rv
  have hr' : ReadsAll s.heap its.toArray.toList (b0.1 :: bt.map fun b => b.1) as := hr
  have hal' : PySem.W.AlikeAll (b0.1 :: bt.map fun b => b.1) := hal
  refine PySem.W.min_list_data (I.ok.hd hc) hl.isList (x := b0.1) (xs := bt.map fun b => b.1) (as := as) hr' hal' (by show X.A.units + 1 + _ < _; simp only [List.map_cons] at hdp; omega) fun i v h' tk bs hv hR hk => ?_
  have hv' : its[i]? = some v := by simpa using hv
  have hlen := rv.length
  have hil := (List.getElem?_eq_some_iff.mp hv').1
  have hb : (b0 :: bt)[i]? = some ((b0 :: bt)[i]'(by rw [List.length_map] at hlen; omega)) := List.getElem?_eq_getElem _
  generalize (b0 :: bt)[i]'(by rw [List.length_map] at hlen; omega) = b at hb
  have hbm : b ∈ b0 :: bt := List.mem_of_getElem? hb
  obtain ⟨u, hu1, hu2⟩ := rv.get (i := i) (x := b.2) (by rw [List.getElem?_map, hb]; rfl)
  rw [hv'] at hu1
  cases hu1
  obtain ⟨as2, hR2⟩ := Dp.reads I b.1 b.2 v (hd b hbm) hu2
  have hR3 : Reads h' v b.1 as2 := PyProof.Rows.Reads.keeps hk hR2
  have hmem : PySem.W.minD b0.1 (bt.map (·.1)) ∈ (b0 :: bt).map (·.1) := minD_mem _ _
  have e : b.1 = PySem.W.minD b0.1 (bt.map (·.1)) := PySem.W.alike_unique _ _ v _ _ (hal.1 _ (List.mem_map_of_mem hbm) _ hmem) hR3 hR
  exact ⟨b.2, H, I.kept (t' := tk) hk, hu2, q b hbm e⟩
theorem toD_inj : ∀ (n : Nat) (p q : P), dat n p = true → dat n q = true → toD p = toD q → p = q := by
  have row : ∀ (n : Nat), (∀ p q : P, dat n p = true → dat n q = true → toD p = toD q → p = q) → ∀ xs ys : List P, xs.all (dat n) = true → ys.all (dat n) = true → toDs xs = toDs ys → xs = ys := fun n ih xs => by
    induction xs with
    | nil => intro ys _ _ h; cases ys with | nil => rfl | cons y ys => rw [toDs, toDs] at h; cases h
    | cons x xs ihx =>
      intro ys hx hy h
      cases ys with
      | nil => rw [toDs, toDs] at h; cases h
      | cons y ys =>
        rw [toDs, toDs] at h
        obtain ⟨h1, h2⟩ := List.cons.inj h
        rw [List.all_cons, Bool.and_eq_true] at hx hy
        rw [ih x y hx.1 hy.1 h1, ihx ys hx.2 hy.2 h2]
  intro n
  induction n with
  | zero =>
    intro p q hp hq h
    cases p <;> first | (simp [dat] at hp; done) | (cases q <;> first | (simp [dat] at hq; done) | (simp only [toD] at h; cases h; rfl) | (simp only [toD] at h; cases h; done))
  | succ n ih =>
    intro p q hp hq h
    cases p <;> first | (simp [dat] at hp; done) | (cases q <;> first | (simp [dat] at hq; done) | (simp only [toD] at h; cases h; done) | (simp only [toD] at h; cases h; rfl) | (simp only [toD] at h; injection h with h; rw [row n ih _ _ hp hq h]))
def mnP (p : P) (ps : List P) : P := ps.foldl (fun a y => if PySem.W.dataLt (toD y) (toD a) = true then y else a) p
theorem mnP_D : ∀ (ps : List P) (p : P), toD (mnP p ps) = PySem.W.minD (toD p) (ps.map toD)
  | [], _ => rfl
  | y :: ps, p => by
    unfold mnP PySem.W.minD
    rw [List.foldl_cons, List.map_cons, List.foldl_cons]
    have := mnP_D ps (if PySem.W.dataLt (toD y) (toD p) = true then y else p)
    unfold mnP PySem.W.minD at this
    rw [this]
    congr 1
    by_cases z : PySem.W.dataLt (toD y) (toD p) = true
    · rw [if_pos z, if_pos z]
    · rw [if_neg z, if_neg z]
theorem mnP_mem : ∀ (ps : List P) (p : P), mnP p ps ∈ p :: ps
  | [], p => List.mem_singleton.mpr rfl
  | y :: ps, p => by
    unfold mnP
    rw [List.foldl_cons]
    have := mnP_mem ps (if PySem.W.dataLt (toD y) (toD p) = true then y else p)
    unfold mnP at this
    rcases List.mem_cons.mp this with h | h
    · rw [h]
      by_cases z : PySem.W.dataLt (toD y) (toD p) = true
      · rw [if_pos z]; simp
      · rw [if_neg z]; simp
    · simp [h]
def minOk (ps : List P) : Bool := ps.all (dat 59) && (ps.all fun p => ps.all fun q => PySem.W.alike (toD p) (toD q)) && ps.all fun p => !p.isNon
def minDP : List P → Option Rv
  | [.lst (p :: ps)] => if minOk (p :: ps) = true then some (.val (mnP p ps)) else none
  | _ => none
theorem toD_non {p : P} (h : dat 59 p = true) (hn : p.isNon = false) : toD p ≠ .none := by
  cases p <;> first | (cases hn; done) | (simp [dat] at h; done) | (rw [toD]; simp)
theorem depth59 {ps : List P} (h : ps.all (dat 59) = true) : PyData.depthAll (ps.map toD) ≤ 60 := by
  have h2 : dat 60 (.lst ps) = true := h
  have := (dat_lay 60 _ h2).2
  rw [toD, PyData.depth, toDs_map] at this
  omega
theorem v_minD {c : Ctx} : CalV c (rMinD c.K) minDP := by
  intro F H ps xs res Q l h e k
  unfold minDP at e
  split at e
  · split at e
    · rename_i p qs hk
      cases e
      obtain ⟨v, rfl, h1⟩ := rbs1 h
      obtain ⟨a, vs, rfl, q, r⟩ := h1.lst l
      obtain ⟨v0, vt, rfl, r0, rt⟩ := rps_inv r
      obtain ⟨e1, e2, e3⟩ := rps_zip rt
      unfold minOk at hk
      simp only [Bool.and_eq_true] at hk
      obtain ⟨⟨k1, k2⟩, k3⟩ := hk
      have k1' := List.all_eq_true.mp k1
      have ef : ((qs.zip vt).map fun x => (toD x.1, x.2)).map (·.1) = qs.map toD := by
        rw [List.map_map]
        conv => rhs; rw [← e1]
        rw [List.map_map]; rfl
      have es : ((qs.zip vt).map fun x => (toD x.1, x.2)).map (·.2) = vt := by rw [List.map_map]; exact e2
      have mem1 : ∀ x ∈ qs.zip vt, x.1 ∈ qs := fun x hx => (List.of_mem_zip hx).1
      refine ⟨a, (toD p, v0), (qs.zip vt).map fun x => (toD x.1, x.2), rfl, ?_, ?_, ?_, ?_, ?_⟩
      · rw [List.map_cons, es]; exact .of q
      · intro b hb
        rcases List.mem_cons.mp hb with rfl | hb
        · exact dp_of 59 p v0 (k1' p List.mem_cons_self) (Rp.mono l _ _ r0)
        · obtain ⟨x, hx, rfl⟩ := List.mem_map.mp hb
          exact dp_of 59 x.1 x.2 (k1' _ (List.mem_cons_of_mem _ (mem1 x hx))) (Rp.mono l _ _ (e3 x hx))
      · rw [List.map_cons, ef]
        show PySem.W.AlikeAll ((p :: qs).map toD)
        refine ⟨fun d hd d' hd' => ?_, fun d hd => ?_⟩
        · obtain ⟨x, hx, rfl⟩ := List.mem_map.mp hd
          obtain ⟨y, hy, rfl⟩ := List.mem_map.mp hd'
          exact List.all_eq_true.mp (List.all_eq_true.mp k2 x hx) y hy
        · obtain ⟨x, hx, rfl⟩ := List.mem_map.mp hd
          have := List.all_eq_true.mp k3 x hx
          exact toD_non (k1' x hx) (by simpa using this)
      · rw [List.map_cons, ef]
        exact depth59 k1
      · intro b hb he
        rw [ef] at he
        have he2 : b.1 = toD (mnP p qs) := by rw [mnP_D]; exact he
        have hm := mnP_mem qs p
        rcases List.mem_cons.mp hb with rfl | hb
        · have := toD_inj 59 _ _ (k1' p List.mem_cons_self) (k1' _ hm) he2
          rw [← this] at k
          exact give l k r0
        · obtain ⟨x, hx, rfl⟩ := List.mem_map.mp hb
          have := toD_inj 59 _ _ (k1' _ (List.mem_cons_of_mem _ (mem1 x hx))) (k1' _ hm) he2
          rw [← this] at k
          exact give l k (e3 x hx)
    · cases e
  · cases e
end PV

set_option maxHeartbeats 2000000
namespace PV
open PySem PySem.Spec L2 PyProof.Rows
/-! ### a list's methods that leave it as it is -/
def rCountD (K : PySem.W.Frag) : V → List V → Hp → VK → Prop := fun x xs H Q => ∃ (a : Addr) (y : V) (d : PyData) (ds : List PyData), x = V.ref a ∧ xs = [y] ∧ Dp K H (V.ref a) (.list ds) ∧ Dp K H y d ∧
  SeqAt.shaped (.list ds) = true ∧ SeqAt.shaped d = true ∧ Q (.int (ds.countP fun z => PyData.eqv z d : Nat)) H
theorem mt_countD {X : Cx} (hu : X.A.units + 65 < cLine) : MtR X "list.count" (rCountD X.K) := by
  intro pins s σ H x xs v us Q I rx rxs h
  obtain ⟨a, y, d, ds, rfl, rfl, hl, hy, sl, sd, q⟩ := h
  cases rx
  cases rxs with
  | cons ry rt =>
    rename_i uy ut
    cases rt
    obtain ⟨bs, r1⟩ := Dp.reads I d y uy hy ry
    have hroom : X.A.units + 1 + min (PyData.depthAll ds) d.depth < cLine := room_in_shaped sd hu
    cases hl with
    | lst hs ha =>
      obtain ⟨its, rv, pl, hlen⟩ := I.list hs
      obtain ⟨as, h4⟩ := Dp.readsAll I ds _ its ha rv
      exact SeqAt.count_list_data pl.isList (show ReadsAll s.heap its.toArray.toList ds as from h4) r1 (PyData.plainAll_of_canLay0 _ (SeqAt.canLay_of_shaped sl)) (PyData.plain_of_canLay0 _ (SeqAt.canLay_of_shaped sd)) hroom ⟨.int _, H, I.tok _, ⟨_, rfl⟩, q⟩
def pmF (o : List P → Option Rv) (f : M Rs) (fa : M (List Rs)) : M Rs := fun π => (f π).bind fun r π1 => match rdP π1 r with
  | some (.lst _) => (fa π1).bind fun rs => opN o (r :: rs)
  | _ => .bad
section
variable {X : Cx} {c : Ctx} {w : Wi} {e ob : Expr} {es : List Expr} {name : Str} {apos cpos : Pos} {id : String} {r : V → List V → Hp → VK → Prop} {o : List P → Option Rv} {fo : M Rs} {fa : M (List Rs)}
theorem pm_weak (hv : CalV c (fun vs H Q => ∃ x xs, vs = x :: xs ∧ r x xs H Q) o) : ∀ σ H Q, tE c w (pmF o fo fa) σ H Q → tBM c.K "list" r (tE c w fo) (tR c w fa) σ H Q := fun σ H Q ⟨F, π, gg, s, po⟩ => by
  refine ⟨F, π, gg, s, (Po.split po).mono fun r1 π1 F1 H1 t1 s1 p1 x hx => ?_⟩
  cases e1 : rdP π1 r1 with
  | none => simp only [e1] at p1; exact p1.elim
  | some q =>
    simp only [e1] at p1
    cases q with
    | lst qs =>
      obtain ⟨a, vs, rfl, h1, h2⟩ := (hx.rb s1 e1).lst s1.le
      refine ⟨.inl ⟨rfl, vs, .of h1⟩, F1, π1, w.mono _ _ t1.le gg, s1, (Po.split p1).mono fun rs π2 F2 H2 t2 s2 p2 xs hxs => ?_⟩
      unfold opN at p2
      cases e2 : rds π2 (r1 :: rs) with
      | none => rw [e2] at p2; exact p2.elim
      | some ps =>
        rw [e2] at p2
        obtain ⟨rv, e3, k⟩ := outR_post s2 p2
        have hxx : RRs c π H F2 π2 σ H2 (r1 :: rs) (.ref a :: xs) := ⟨.ref a, xs, rfl, hx.step t2, hxs.base t1⟩
        obtain ⟨x', xs', e4, h4⟩ := hv F2 H2 ps (.ref a :: xs) rv Q s2.le (hxx.rbs s2 e2) e3 fun v F3 H3 gr rn => by
          obtain ⟨k1, k2⟩ := k v F3 H3 gr rn
          exact k1 v ((k2.base t2).base t1)
        cases e4
        exact h4
    | _ => exact p1.elim
theorem p_pm (pa : PlainAttrs "list") (slot : Slot "list" name id) (hty : typeOf (.builtin id) = pure (.type "method_descriptor")) (hm : MtR X id r) (hK : X.K = c.K) (hv : CalV c (fun vs H Q => ∃ x xs, vs = x :: xs ∧ r x xs H Q) o) (ho : PE X ob (tE c w fo)) (ha : PA X (e :: es) (tR c w fa))
    (hbase : attributeBase ob name X.env (eval ob X.env) = eval ob X.env := by rfl)
    (hfew : ((backTo cpos (starEach (e :: es) X.env)).all (fun x => !x.1) && (backToKw cpos (keywordEach [] X.env)).all (fun x => x.1.isSome)
      && decide ((e :: es).length + ([] : List Keyword).length + (if ([] : List Keyword).isEmpty then 0 else 1) < 30)) = true := by rfl)
    (hline : (apos.endLine == cpos.line) = true := by rfl) (hs : starEach (e :: es) X.env = (false, eval e X.env) :: starEach es X.env := by rfl) (hplain : (backTo cpos (starEach es X.env)).any (·.1) = false := by rfl) :
    PE X (.Call (.Attribute ob name apos) (e :: es) [] cpos) (tE c w (pmF o fo fa)) :=
  pe_weak (pe_bm pa slot hty hm ho ha hbase hfew hline hs hplain) fun σ H Q h => by rw [hK]; exact pm_weak hv σ H Q h
end
/-! count, index -/
def countP : List P → Option Rv
  | [.lst ps, q] => if dat 60 (.lst ps) = true ∧ dat 60 q = true then some (.val (.int (ps.countP fun z => eqv z q : Nat))) else none
  | _ => none
theorem count_toD {p : P} : ∀ ps : List P, ((toDs ps).countP fun z => PyData.eqv z (toD p)) = ps.countP fun z => eqv z p
  | [] => rfl
  | q :: ps => by
    rw [toDs, List.countP_cons, List.countP_cons, count_toD ps]; rfl
theorem v_count {c : Ctx} : CalV c (fun vs H Q => ∃ x xs, vs = x :: xs ∧ rCountD c.K x xs H Q) countP := by
  intro F H ps xs res Q l h e k
  unfold countP at e
  split at e
  · split at e
    · rename_i qs q hd
      cases e
      obtain ⟨v, t, rfl, h1, h2⟩ := h
      obtain ⟨u, t2, rfl, h3, h4⟩ := h2
      have : t2 = [] := h4
      subst this
      obtain ⟨a, vs, rfl, g1, g2⟩ := h1.lst l
      have d1 := dp_of 60 _ _ hd.1 (h1.rpH l)
      have s1 := dat_shaped hd.1
      unfold toD at d1 s1
      exact ⟨.ref a, [u], rfl, a, u, toD q, toDs qs, rfl, rfl, d1, dp_of 60 q u hd.2 (h3.rpH l), s1, dat_shaped hd.2, by rw [count_toD]; exact give l k mk_int⟩
    · cases e
  · cases e
def indexP : List P → Option Rv
  | [.lst ps, q] => if dat 60 (.lst ps) = true ∧ dat 60 q = true then (ps.findIdx? fun z => eqv z q).bind fun j => some (.val (.int (j : Nat))) else none
  | _ => none
theorem toDs_get : ∀ (ps : List P) (m : Nat), (toDs ps)[m]? = (ps[m]?).map toD
  | [], m => by rw [toDs]; simp
  | p :: ps, 0 => by rw [toDs]; simp
  | p :: ps, m + 1 => by rw [toDs]; simp [toDs_get ps m]
theorem v_index {c : Ctx} : CalV c (fun vs H Q => ∃ x xs, vs = x :: xs ∧ rIndexD c.K x xs H Q) indexP := by
  intro F H ps xs res Q l h e k
  unfold indexP at e
  split at e
  · split at e
    · rename_i qs q hd
      cases ej : qs.findIdx? fun z => eqv z q with
      | none => rw [ej] at e; cases e
      | some j =>
        rw [ej] at e
        cases e
        obtain ⟨v, t, rfl, h1, h2⟩ := h
        obtain ⟨u, t2, rfl, h3, h4⟩ := h2
        have : t2 = [] := h4
        subst this
        obtain ⟨a, vs, rfl, g1, g2⟩ := h1.lst l
        have d1 := dp_of 60 _ _ hd.1 (h1.rpH l)
        have s1 := dat_shaped hd.1
        unfold toD at d1 s1
        obtain ⟨hj, hj2, hj3⟩ := List.findIdx?_eq_some_iff_getElem.mp ej
        refine ⟨.ref a, [u], rfl, a, u, toD q, toDs qs, j, toD qs[j], rfl, rfl, d1, dp_of 60 q u hd.2 (h3.rpH l), s1, dat_shaped hd.2, ?_, hj2, ?_, give l k mk_int⟩
        · rw [toDs_get, List.getElem?_eq_getElem hj]; rfl
        · intro m z' hm hz
          rw [toDs_get, List.getElem?_eq_getElem (by omega)] at hz
          cases hz
          have := hj3 m hm
          simpa [eqv] using this
    · cases e
  · cases e
/-! ### a list's methods, the arguments read where they stand -/
def MlVL (c : Ctx) (r : V → List V → Hp → VK → Prop) (o : List P → List P → Option (P × List P)) : Prop := ∀ (F H : Hp) (xs ps : List P) (vs ws : List V) (a : Addr) (q : P) (ys : List P) (Q : VK), Le F H → H a = some (.lst vs) → Rps c F xs vs → Rps c F ps ws → o xs ps = some (q, ys) →
  (∀ v us, Rp c F q v → Rps c F ys us → Q v (L2.upd H a (.lst us))) → r (.ref a) ws H Q
section
variable {X : Cx} {c : Ctx} {w : Wi} {e : Expr} {es : List Expr} {name x : Str} {apos cpos pos : Pos} {id : String} {r : V → List V → Hp → VK → Prop} {o : List P → List P → Option (P × List P)} {i : Nat} {fa : M (List Rs)}
theorem mut_postL {W : WX} {F H H0 : Hp} {π π0 : En} {σ : L2.St} {rs : List Rs} {ws : List V} {a : Addr} {Q : VK} (hv : MlVL c r o) (s : SR c F π σ H) (hr : RRs c π0 H0 F π σ H rs ws) (hσ : σ[i]? = some (some (.ref a)))
    (po : Po c W F π σ H (mutR o i rs π) (fun r' π' F' H' => ∀ v, RR c π0 H0 F' π' σ H' r' v → Q v H')) : r (.ref a) ws H Q := by
  unfold mutR at po
  cases e1 : getL π i with
  | none => rw [e1] at po; exact po.elim
  | some xs =>
    cases e2 : vals rs with
    | none => rw [e1, e2] at po; exact po.elim
    | some ps =>
      cases e3 : o xs ps with
      | none => simp only [e1, e2, e3] at po; exact po.elim
      | some qy =>
        obtain ⟨q, ys⟩ := qy
        simp only [e1, e2, e3] at po
        obtain ⟨b, vs, h1, h2, h3⟩ := s.getL e1
        rw [hσ] at h1
        cases h1
        refine hv F H xs ps vs ws a q ys Q s.le h2 h3 (vals_rps hr e2) e3 fun v us rv ru => ?_
        obtain ⟨s2, t2⟩ := s.putL e1 hσ ru
        exact po F _ t2 s2 v rv
theorem p_mutL (pa : PlainAttrs "list") (slot : Slot "list" name id) (hty : typeOf (.builtin id) = pure (.type "method_descriptor")) (hm : MtR X id r) (hv : MlVL c r o) (ho : PE X (.Name x pos) (tE c w (varF i))) (ha : PA X (e :: es) (tR c w fa))
    (hbase : attributeBase (.Name x pos) name X.env (eval (.Name x pos) X.env) = eval (.Name x pos) X.env := by rfl)
    (hfew : ((backTo cpos (starEach (e :: es) X.env)).all (fun x => !x.1) && (backToKw cpos (keywordEach [] X.env)).all (fun x => x.1.isSome)
      && decide ((e :: es).length + ([] : List Keyword).length + (if ([] : List Keyword).isEmpty then 0 else 1) < 30)) = true := by rfl)
    (hline : (apos.endLine == cpos.line) = true := by rfl) (hs : starEach (e :: es) X.env = (false, eval e X.env) :: starEach es X.env := by rfl) (hplain : (backTo cpos (starEach es X.env)).any (·.1) = false := by rfl) :
    PE X (.Call (.Attribute (.Name x pos) name apos) (e :: es) [] cpos) (tE c w (mutF o i fa)) :=
  pe_weak (pe_bm pa slot hty hm ho ha hbase hfew hline hs hplain) fun σ H Q ⟨F, π, gg, s, po⟩ => by
    unfold mutF at po
    cases e1 : getL π i with
    | none => rw [e1] at po; exact po.elim
    | some xs =>
      rw [e1] at po
      obtain ⟨sl, h1, h2⟩ := getL_at e1
      obtain ⟨a, vs, h3, h4, h5⟩ := s.getL e1
      refine ⟨F, π, gg, s, ?_⟩
      have hvar : varF i π = .ok (.bor i) π := by
        unfold varF
        rw [h1]
        cases sl with
        | own o => rfl
        | loan o => rfl
        | _ => cases h2
      rw [hvar]
      intro F1 H1 t1 s1 v hv'
      have hv2 : v = .ref a := by
        have : σ[i]? = some (some v) := hv'
        rw [h3] at this
        exact (Option.some.inj (Option.some.inj this)).symm
      subst hv2
      obtain ⟨b, vs1, q3, q4, q5⟩ := s1.getL e1
      rw [h3] at q3
      cases q3
      refine ⟨tv_list q4, F1, π, w.mono _ _ t1.le gg, s1, (Po.split (Po.from po t1)).mono fun rs π2 F2 H2 t2 s2 p2 ws hws => ?_⟩
      exact mut_postL hv s2 hws h3 (p2.mono fun r' π' F' H' t' s' k v hr => k v (RR.base hr t1 : RR c π H F' π' σ H' r' v))
end
/-! extend by a list -/
def extP : List P → List P → Option (P × List P)
  | xs, [.lst ys] => if xs.length + ys.length ≤ 1000000 then some (.non, xs ++ ys) else none
  | _, _ => none
theorem v_extend {c : Ctx} : MlVL c rExtend extP := by
  intro F H xs ps vs ws a q ys Q l h1 h2 h3 e k
  have hs := sizeLine_eq
  unfold extP at e
  split at e
  · rename_i zs
    split at e
    · cases e
      obtain ⟨v, t, rfl, r1, r2⟩ := rps_inv h3
      have := rps_nil_inv r2
      subst this
      obtain ⟨b, us, rfl, g1, g2⟩ := rp_lst r1
      have n1 := rps_len h2
      have n2 := rps_len g2
      exact ⟨a, b, vs, us, rfl, rfl, h1, l.lst g1, by omega, k _ _ mk_non (rps_append h2 g2)⟩
    · cases e
  · cases e
end PV

set_option maxHeartbeats 2000000
namespace PV
open PySem PySem.Spec L2 PyProof.Rows
/-! ### sum(lists, start) -/
def LAt (h : Heap) (a : Addr) (xs : List Value) : Prop := ∃ n, h.get? a = some { cls := .type "list", dict := none, data := .seq xs.toArray n, slots := #[] }
def catI (items : Nat → List Value) : Nat → Nat → List Value
  | _, 0 => []
  | i, k + 1 => items i ++ catI items (i + 1) k
theorem LAt.keep {h h' : Heap} {a : Addr} {xs : List Value} (x : LAt h a xs) (k : ∀ o, h.get? a = some o → h'.get? a = some o) : LAt h' a xs := let ⟨n, e⟩ := x; ⟨n, k _ e⟩
section
variable {prog : Program} {w : World} {A : Around} {R : Result → Shared → Prop} {I : Addr} {fp wr : List Addr} {G : Array GenState → Array GenState → Prop} {n : Nat} {P : Nat → Value → Prop} {St : Nat → Shared → Prop}
theorem codeAny_sum_loopL (W : WalksS prog w A.in1 I fp wr G n P St) (H : Heap) (hw : ∀ b o, H.get? b = some o → b ∉ wr) (S : Addr) (hSf : S ∉ fp) (hfpS : ∀ b ∈ fp, b < S) (hSH : H.get? S = none) (items : Nat → List Value) (hP : ∀ i v, P i v → ∃ a, v = .ref a ∧ LAt H a (items i)) :
    ∀ (k i : Nat) (s : Shared) (d : Addr) (xs : List Value) (c : Nat), n - i = k → i ≤ n → (∀ b o, H.get? b = some o → s.heap.get? b = some o) → St i s → s.heap.get? S = some { cls := .type "list", dict := none, data := .seq #[.ref d] c, slots := #[] } →
    LAt s.heap d xs → d ≠ S → d ∉ wr → xs.length + (catI items i k).length ≤ sizeLine →
    (∀ s' d', LAt s'.heap d' (xs ++ catI items i k) → (k = 0 ∧ d' = d ∨ k ≠ 0 ∧ S < d') → Moved (S :: wr) G s s' → R (.ok (.ret (.ref d'))) s') → codeAny (model prog w) A (.builtin "sum.loop" ⟨[.ref I, .ref S, rawInt 2, rawInt 0], []⟩) R s := by
  have hSw : S ∉ wr := fun h => hSf (W.sub _ h)
  have hsub : ∀ b ∈ wr, b ∈ S :: wr := fun b hb => List.mem_cons_of_mem _ hb
  have notS : ∀ {b : Addr}, b ∉ S :: wr → S ≠ b := fun hb h => hb (by rw [h]; exact List.mem_cons_self)
  have notH : ∀ {b : Addr} {o : Obj}, H.get? b = some o → S ≠ b := fun e h => by rw [← h, hSH] at e; cases e
  intro k
  induction k with
  | zero =>
    intro i s d xs c hk hi hkeep hst hS hd hdS hdw hsz hR
    have hin : i = n := by omega
    subst hin
    refine codeAny_builtin F.entry_sum_loop ?_
    rw [Around.under_plainId F.plain_sum_loop _]
    show wpAny _ A.in1 (seqItems? (.ref S) >>= _) _ _ s
    refine wpAny_bind (wpAny_seqItems hS rfl ?_)
    show wpAny _ A.in1 (tryCatch (pyNext (.ref I)) _ >>= _) _ _ s
    refine wpAny_bind (wpAny_tryCatch (W.done s _ _ hst fun s' hm => ?_))
    refine wpAny_pure (hR s' d ?_ (.inl ⟨rfl, rfl⟩) (hm.mono hsub))
    rw [show catI items i 0 = [] from rfl, List.append_nil]
    exact hd.keep fun o e => hm.heap d o hdw e
  | succ k ih =>
    intro i s d xs c hk hi hkeep hst hS hd hdS hdw hsz hR
    have hlt : i < n := by omega
    refine codeAny_builtin F.entry_sum_loop ?_
    rw [Around.under_plainId F.plain_sum_loop _]
    show wpAny _ A.in1 (seqItems? (.ref S) >>= _) _ _ s
    refine wpAny_bind (wpAny_seqItems hS rfl ?_)
    show wpAny _ A.in1 (tryCatch (pyNext (.ref I)) _ >>= _) _ _ s
    refine wpAny_bind (wpAny_tryCatch (W.item i s _ _ hlt hst fun v s' hPi hst' hm => ?_))
    obtain ⟨a, rfl, ha⟩ := hP i v hPi
    have hS' := hm.heap S _ hSw hS
    have hkeep' : ∀ b o, H.get? b = some o → s'.heap.get? b = some o := fun b o e => hm.heap b o (hw b o e) (hkeep b o e)
    have hd' : LAt s'.heap d xs := hd.keep fun o e => hm.heap d o hdw e
    have ha' : LAt s'.heap a (items i) := ha.keep fun o e => hkeep' a o e
    obtain ⟨n1, hd1⟩ := hd'
    obtain ⟨n2, ha2⟩ := ha'
    have hSlt : S < s'.heap.objs.size := Heap.lt_size hS'
    rw [show catI items i (k + 1) = items i ++ catI items (i + 1) k from rfl, List.length_append] at hsz
    show wpAny _ A.in1 ((holding [Value.ref a] (binaryOp .Add (.ref d) (.ref a))).attempt >>= _) _ _ _
    refine wpAny_bind (wpAny_attempt (wpAny_holding (PySem.P.add_list hd1 ha2 ?_ (by rw [List.size_toArray, List.size_toArray]; omega))))
    have hS1 : (s'.heap.push { cls := .type "list", data := .seq (xs.toArray ++ (items i).toArray) }).get? S = some { cls := .type "list", dict := none, data := .seq #[.ref d] c, slots := #[] } := Heap.get?_push_of_some _ hS'
    show wpAny _ A.in1 (updateSeq S (fun _ => #[.ref s'.heap.objs.size]) >>= _) _ _ _
    refine wpAny_bind (wpAny_updateSeq hS1 rfl ?_)
    have hS₂ := Heap.get?_update_self (Obj.mapSeq fun _ => #[Value.ref s'.heap.objs.size]) hS1 rfl
    refine wpAny_bind (wpAny_letGo ?_)
    refine wpAny_bind (wpAny_updateSeq hS₂ rfl (wpAny_pure ⟨plainId_quiet F.plain_sum_loop _, ih (i + 1) _ s'.heap.objs.size (xs ++ items i) _ (by omega) hlt (fun b o e => ?_) (W.frame _ s' _ s'.toks hst' (Nat.le_refl _) fun b hb o e => ?_) (Heap.get?_update_self _ hS₂ rfl) ?_ (Nat.ne_of_gt hSlt) (fun z => ?_) (by rw [List.length_append]; omega) fun s'' d'' hl'' ho'' hm'' => ?_⟩))
    · exact (Heap.get?_update_other _ _ (notH e)).trans ((Heap.get?_update_other _ _ (notH e)).trans (Heap.get?_push_of_some _ (hkeep' b o e)))
    · exact (Heap.get?_update_other _ _ (fun h : S = b => hSf (by rw [h]; exact hb))).trans ((Heap.get?_update_other _ _ (fun h : S = b => hSf (by rw [h]; exact hb))).trans (Heap.get?_push_of_some _ e))
    · refine ⟨0, (Heap.get?_update_other _ _ (Nat.ne_of_lt hSlt)).trans ((Heap.get?_update_other _ _ (Nat.ne_of_lt hSlt)).trans ?_)⟩
      rw [show (xs ++ items i).toArray = xs.toArray ++ (items i).toArray by simp]
      exact Heap.get?_push_size _ rfl
    · exact absurd (Nat.lt_trans (hfpS _ (W.sub _ z)) hSlt) (Nat.lt_irrefl _)
    · refine hR s'' d'' (by rw [show catI items i (k + 1) = items i ++ catI items (i + 1) k from rfl, ← List.append_assoc]; exact hl'') (.inr ⟨by omega, ?_⟩) (Moved.trans W.gtrans ((hm.mono hsub).then_heap (Nat.le_refl _) fun b o hb e => ?_) hm'')
      · rcases ho'' with ⟨_, rfl⟩ | h
        · exact hSlt
        · exact h.2
      · exact (Heap.get?_update_other _ _ (fun h : S = b => hb (by rw [h]; exact List.mem_cons_self))).trans ((Heap.get?_update_other _ _ (fun h : S = b => hb (by rw [h]; exact List.mem_cons_self))).trans (Heap.get?_push_of_some _ e))
end
section
variable {prog : Program} {w : World} {A : Around} {E : Value → Shared → Prop} {s : Shared}
theorem args_sum2 (a b : Value) : argsOk "sum" ⟨[a, b], []⟩ := by unfold argsOk; kernel_rfl
theorem sub_l_str : isSubtype (.type "list") (.type "str") = pure false := by rw [isSubtype_type]; kernel_rfl
theorem sub_l_bytes : isSubtype (.type "list") (.type "bytes") = pure false := by rw [isSubtype_type]; kernel_rfl
theorem sub_l_ba : isSubtype (.type "list") (.type "bytearray") = pure false := by rw [isSubtype_type]; kernel_rfl
theorem call_sumL {l d : Addr} {vs : Array Value} {xs : List Value} {items : Nat → List Value} {Q : Value → Shared → Prop} (hh : A.handled = none) (hl : s.heap.IsList l vs) (hd : LAt s.heap d xs) (hP : ∀ i v, vs[i]? = some v → ∃ a, v = .ref a ∧ LAt s.heap a (items i)) (hsz : xs.length + (catI items 0 vs.size).length ≤ sizeLine)
    (h : ∀ h' tk d', (∀ b o, s.heap.get? b = some o → h'.get? b = some o) → LAt h' d' (xs ++ catI items 0 vs.size) → (vs.size = 0 ∧ d' = d ∨ vs.size ≠ 0 ∧ s.heap.objs.size ≤ d') → Q (.ref d') { s with heap := h', toks := tk }) :
    wpAny (model prog w) A (call (.builtin "sum") [.ref l, .ref d]) Q E s := by
  refine call_function_tree F.kind_sum F.plain_sum F.entry_sum (args_sum2 _ _) ?_
  unfold Builtin.«sum»
  simp only [List.length_cons, List.length_nil]
  rw [if_neg (by decide)]
  refine wpAny_bind (wpAny_of_eq (show Builtin.Builtins.bindParams "sum" ["start"] 0 ⟨[.ref d], []⟩ = pure [some (.ref d)] from rfl) ?_)
  refine wpAny_bind (PySem.W.iter_listW (A := A.in1) hh hl fun s₂ e W st hfp hw hk => ?_)
  refine wpAny_bind (wpAny_pure ?_)
  obtain ⟨nd, hd0⟩ := hd
  have hd2 := hk _ _ hd0
  have ty : s₂.TypeIs (.ref d) "list" := ⟨_, hd2, rfl⟩
  simp only [List.forIn_cons, List.forIn_nil]
  refine wpAny_bind (wpAny_bind (wpAny_bind (wpAny_isInstance (T := "list") (b := false) ty sub_l_str ?_)))
  simp only [Bool.false_eq_true, if_false]
  refine wpAny_pure (wpAny_bind (wpAny_bind (wpAny_isInstance (T := "list") (b := false) ty sub_l_bytes ?_)))
  simp only [Bool.false_eq_true, if_false]
  refine wpAny_pure (wpAny_bind (wpAny_bind (wpAny_isInstance (T := "list") (b := false) ty sub_l_ba ?_)))
  simp only [Bool.false_eq_true, if_false]
  refine wpAny_pure (wpAny_pure ?_)
  refine wpAny_bind (wpAny_newObj_type ?_)
  have hS1 : s.heap.objs.size < s₂.heap.objs.size := hfp _ List.mem_cons_self
  have hSf : s₂.heap.objs.size ∉ [s.heap.objs.size, l] := fun hm => Nat.lt_irrefl _ (hfp _ hm)
  have hSH : s.heap.get? s₂.heap.objs.size = none := by
    cases q : s.heap.get? s₂.heap.objs.size with
    | none => rfl
    | some o => exact absurd (Nat.lt_trans hS1 (Heap.lt_size q)) (Nat.lt_irrefl _)
  refine wpAny_pure ⟨plainId_quiet F.plain_sum_loop _, codeAny_sum_loopL W s.heap hw s₂.heap.objs.size hSf hfp hSH items hP vs.size 0 _ d xs 0 rfl (Nat.zero_le _) (fun b o e => Heap.get?_push_of_some _ (hk b o e))
    (W.frame 0 s₂ _ _ st (Nat.le_refl _) fun b _ o e => Heap.get?_push_of_some _ e) (Heap.get?_push_size _ rfl) ⟨nd, Heap.get?_push_of_some _ hd2⟩ (fun z => ?_) (hw d _ hd0) hsz fun s' d' hl' ho hm => ?_⟩
  · exact absurd (Nat.lt_trans hS1 (z ▸ Heap.lt_size hd0)) (Nat.lt_irrefl _)
  · obtain ⟨h', tk, rfl, hk'⟩ := PySem.W.moved_old e rfl (hm.drop_new (Nat.le_refl _))
    refine h h' tk d' hk' hl' ?_
    rcases ho with ho | ho
    · exact .inl ho
    · exact .inr ⟨ho.1, Nat.le_of_lt (Nat.lt_trans hS1 ho.2)⟩
end
/-- sum(lists, start) -/
def rSumL : List V → Hp → VK → Prop := fun vs H Q => ∃ (l d : Addr) (xss : List (Addr × List V)) (ys : List V), vs = [.ref l, .ref d] ∧ H l = some (.lst (xss.map fun x => V.ref x.1)) ∧ H d = some (.lst ys) ∧ (∀ x ∈ xss, H x.1 = some (.lst x.2)) ∧ ys.length + (xss.flatMap (·.2)).length ≤ sizeLine ∧
  (xss = [] → Q (.ref d) H) ∧ (xss ≠ [] → ∀ p, H p = none → Q (.ref p) (L2.upd H p (.lst (ys ++ xss.flatMap (·.2)))))
theorem cat_drop (itss : List (List Value)) : ∀ (k i : Nat), itss.length - i = k → catI (fun j => itss.getD j []) i k = (itss.drop i).flatten
  | 0, i, h => by rw [List.drop_of_length_le (by omega)]; rfl
  | k + 1, i, h => by
    have hi : i < itss.length := by omega
    rw [show catI (fun j => itss.getD j []) i (k + 1) = itss.getD i [] ++ catI (fun j => itss.getD j []) (i + 1) k from rfl, cat_drop itss k (i + 1) (by omega), List.drop_eq_getElem_cons hi, List.flatten_cons]
    congr 1
    rw [List.getD_eq_getElem?_getD, List.getElem?_eq_getElem hi]; rfl
theorem lists_of {X : Cx} {pins : List (Addr × Obj)} {σ : L2.St} {H : Hp} {s : Shared} (I : Inv X pins σ H s) : ∀ xss : List (Addr × List V), (∀ x ∈ xss, H x.1 = some (.lst x.2)) → ∃ itss : List (List Value), itss.length = xss.length ∧ Vals (xss.flatMap (·.2)) itss.flatten ∧ ∀ (i : Nat) x, xss[i]? = some x → LAt s.heap x.1 (itss.getD i [])
  | [], _ => ⟨[], rfl, .nil, fun i x e => by simp at e⟩
  | x :: xss, h => by
    obtain ⟨itss, h1, h2, h3⟩ := lists_of I xss fun y hy => h y (List.mem_cons_of_mem _ hy)
    obtain ⟨z, its, n, r, hl, e⟩ := I.lstM (h x List.mem_cons_self)
    refine ⟨its :: itss, by simp [h1], by rw [List.flatMap_cons, List.flatten_cons]; exact r.append h2, fun i y hy => ?_⟩
    cases i with
    | zero => simp at hy; subst hy; exact ⟨n, e⟩
    | succ i => exact h3 i y (by simpa using hy)
theorem cr_sumL {X : Cx} (hc : X.calm = true) : CallR X (.builtin "sum") rSumL := by
  intro pins s σ H vs us Q I r h
  obtain ⟨l, d, xss, ys, rfl, hl, hd, hx, hsz, q1, q2⟩ := h
  obtain ⟨u1, u2, rfl, r1, r2⟩ := Vals.two r
  cases r1
  cases r2
  obtain ⟨z, its, n, rv, hlen, e⟩ := I.lstM hl
  obtain ⟨z2, its2, n2, rv2, hlen2, e2⟩ := I.lstM hd
  obtain ⟨itss, h1, h2, h3⟩ := lists_of I xss hx
  have hll : its.length = xss.length := by rw [← hlen, List.length_map]
  have hfl := h2.length
  have hcat : catI (fun j => itss.getD j []) 0 its.toArray.size = itss.flatten := by
    rw [cat_drop itss _ 0 (by rw [List.size_toArray]; omega), List.drop_zero]
  refine call_sumL (items := fun j => itss.getD j []) (vs := its.toArray) (xs := its2) (I.ok.hd hc) ⟨_, e, rfl, n, rfl⟩ ⟨n2, e2⟩ (fun i v hv => ?_) (by rw [hcat, ← hlen2, ← hfl]; exact hsz) fun h' tk d' hk hl' ho => ?_
  · have hv' : its[i]? = some v := by simpa using hv
    have hi := (List.getElem?_eq_some_iff.mp hv').1
    have hxi : xss[i]? = some (xss[i]'(by omega)) := List.getElem?_eq_getElem _
    obtain ⟨u, hu1, hu2⟩ := rv.get (i := i) (x := V.ref (xss[i]'(by omega)).1) (by rw [List.getElem?_map, hxi]; rfl)
    rw [hv'] at hu1
    cases hu1
    cases hu2
    exact ⟨_, rfl, h3 i _ hxi⟩
  · rw [hcat] at hl'
    obtain ⟨n3, hl'⟩ := hl'
    by_cases z0 : xss = []
    · subst z0
      rcases ho with ⟨_, rfl⟩ | ho
      · exact ⟨.ref d', H, I.kept (t' := tk) hk, rfl, q1 rfl⟩
      · exact absurd (by rw [List.size_toArray, hll]; rfl) ho.1
    · rcases ho with ⟨ho, _⟩ | ho
      · exact absurd (List.length_eq_zero_iff.mp (by rw [List.size_toArray] at ho; omega)) z0
      · exact ⟨.ref d', L2.upd H d' (.lst (ys ++ xss.flatMap (·.2))), I.laid (t' := tk) hk ho.2 ⟨by rw [List.length_append]; exact hsz, its2 ++ itss.flatten, n3, rv2.append h2, hl'⟩, rfl, q2 z0 d' (I.hok.fresh ho.2)⟩
/-! ### a call whose arguments are taken -/
def calvR (o : List P → Option Rv) (rs : List Rs) : M Rs := fun π => match vals rs with
  | some ps => outR (o ps) π
  | none => .bad
def calvF (o : List P → Option Rv) (fa : M (List Rs)) : M Rs := fun π => (fa π).bind (calvR o)
def CalW (c : Ctx) (r : List V → Hp → VK → Prop) (o : List P → Option Rv) : Prop := ∀ (F H : Hp) (ps : List P) (xs : List V) (res : Rv) (Q : VK), Le F H → Rps c F ps xs → o ps = some res →
  (∀ v F' H', Gr F H F' H' → RN c H F' H' res v → Q v H') → r xs H Q
section
variable {X : Cx} {c : Ctx} {w : Wi} {x : Str} {p pos : Pos} {e : Expr} {es : List Expr} {fa : M (List Rs)} {id : String} {r : List V → Hp → VK → Prop} {o : List P → Option Rv}
theorem calw_weak (hv : CalW c r o) : ∀ σ H Q, tE c w (calvF o fa) σ H Q → tCB r (tR c w fa) σ H Q := fun σ H Q ⟨F, π, gg, s, po⟩ => by
  refine ⟨F, π, gg, s, (Po.split po).mono fun rs π1 F1 H1 t1 s1 p1 xs hx => ?_⟩
  unfold calvR at p1
  cases e1 : vals rs with
  | none => rw [e1] at p1; exact p1.elim
  | some qs =>
    rw [e1] at p1
    obtain ⟨rv, e3, k⟩ := outR_post s1 p1
    refine hv F1 H1 qs xs rv Q s1.le (vals_rps hx e1) e3 fun v F3 H3 gr rn => ?_
    obtain ⟨k1, k2⟩ := k v F3 H3 gr rn
    exact k1 v (k2.base t1)
theorem p_bltW (hop : CallR X (.builtin id) r) (hv : CalW c r o) (hg : Gl X x) (hm : X.mg x = none) (hb : bootBuiltins x = some (.builtin id)) (ha : PA X (e :: es) (tR c w fa)) (hn : x ≠ "__name__" := by decide) (hdb : (x == ("__debug__" : Str)) = false := by decide)
    (he : starEach (e :: es) X.env = (false, eval e X.env) :: starEach es X.env := by rfl) (hpl : (backTo pos (starEach es X.env)).any (·.1) = false := by rfl) : PE X (.Call (.Name x p) (e :: es) [] pos) (tE c w (calvF o fa)) :=
  pe_weak (pe_callB hop hg hm hb ha hn hdb he hpl) (calw_weak hv)
end
def lstsOf : List P → Option (List (List P))
  | [] => some []
  | .lst ps :: r => (lstsOf r).map (ps :: ·)
  | _ => none
def sumLP : List P → Option Rv
  | [.lst ls, .lst ys] => (lstsOf ls).bind fun xss => if ys.length + xss.flatten.length ≤ 1000000 then some (if ls.isEmpty = true then .val (.lst ys) else .own (.lst (ys ++ xss.flatten))) else none
  | _ => none
theorem lsts_rps {c : Ctx} {F H : Hp} (l : Le F H) : ∀ {ls : List P} {vs : List V} {xss : List (List P)}, lstsOf ls = some xss → Rps c F ls vs → ∃ zs : List (Addr × List V), vs = zs.map (fun x => V.ref x.1) ∧ (∀ x ∈ zs, H x.1 = some (.lst x.2)) ∧ Rps c F xss.flatten (zs.flatMap (·.2)) ∧ ls.length = zs.length
  | [], vs, xss, e, r => by
    cases e
    exact ⟨[], by rw [rps_nil_inv r]; rfl, fun x hx => by simp at hx, rps_nil, rfl⟩
  | p :: ls, vs, xss, e, r => by
    obtain ⟨v, t, rfl, r1, r2⟩ := rps_inv r
    cases p with
    | lst ps =>
      have e' : (lstsOf ls).map (ps :: ·) = some xss := e
      cases e1 : lstsOf ls with
      | none => rw [e1] at e'; cases e'
      | some yss =>
        rw [e1] at e'
        cases e'
        obtain ⟨a, us, rfl, g1, g2⟩ := rp_lst r1
        obtain ⟨zs, rfl, h1, h2, h3⟩ := lsts_rps l e1 r2
        refine ⟨(a, us) :: zs, rfl, fun x hx => ?_, by rw [List.flatten_cons, List.flatMap_cons]; exact rps_append g2 h2, by simp [h3]⟩
        rcases List.mem_cons.mp hx with rfl | hx
        · exact l.lst g1
        · exact h1 x hx
    | _ => cases e
theorem v_sumL {c : Ctx} : CalW c rSumL sumLP := by
  intro F H ps xs res Q l h e k
  have hs := sizeLine_eq
  unfold sumLP at e
  split at e
  · rename_i ls ys
    cases e1 : lstsOf ls with
    | none => rw [e1] at e; cases e
    | some xss =>
      rw [e1] at e
      simp only [Option.bind_some] at e
      split at e
      · obtain ⟨v, t, rfl, r1, r2⟩ := rps_inv h
        obtain ⟨v2, t2, rfl, r3, r4⟩ := rps_inv r2
        have := rps_nil_inv r4
        subst this
        obtain ⟨a, us, rfl, g1, g2⟩ := rp_lst r1
        obtain ⟨d, ws, rfl, g3, g4⟩ := rp_lst r3
        obtain ⟨zs, rfl, h1, h2, h3⟩ := lsts_rps l e1 g2
        have n1 := rps_len h2
        have n2 := rps_len g4
        refine ⟨a, d, zs, ws, rfl, l.lst g1, l.lst g3, h1, by omega, fun z => ?_, fun z q hq => ?_⟩
        · subst z
          have : ls = [] := List.length_eq_zero_iff.mp h3
          subst this
          cases e
          exact give l k r3
        · have : ls.isEmpty = false := by
            cases ls with
            | nil => exact absurd (List.length_eq_zero_iff.mp h3.symm) z
            | cons _ _ => rfl
          rw [this] at e
          cases e
          exact k _ _ _ (gr_lst l hq) (rn_lst l hq (rps_append g4 h2))
      · cases e
  · cases e
end PV

set_option maxHeartbeats 2000000
namespace PV
open PySem PySem.Spec L2 PyProof.Rows
/-! ### x, y = e, e' where a name is read within a comprehension -/
section
variable {X : Cx} {c : Ctx} {w : Ws} {a b : Expr} {x y : Str} {px py pt pos : Pos} {kt k2 pt2} {i j : Nat} {f g : M Rs}
theorem s_parC (hc : X.calm = true) (hN : X.N.Nodup) (hi : X.N[i]? = some x) (hj : X.N[j]? = some y) (hij : i ≠ j) (hx : Loc X.env.scope x) (hy : Loc X.env.scope y) (ha : PE X a (tE c w f)) (hb : PE X b (tE c w g))
    (hw : swappedStores [.Tuple [.Name x px, .Name y py] kt pt] (.Tuple [a, b] k2 pt2) X.env = pure none := by rfl)
    (hfx : X.fn x = true ∨ X.env.scope.names.lookup x = some .local := by first | exact .inl rfl | exact .inr rfl) (hfy : X.fn y = true ∨ X.env.scope.names.lookup y = some .local := by first | exact .inl rfl | exact .inr rfl)
    (s1 : starEach [a, b] X.env = (false, eval a X.env) :: starEach [b] X.env := by rfl) (s2 : starEach [b] X.env = (false, eval b X.env) :: starEach [] X.env := by rfl)
    (hs : swapsWithSole [.Tuple [.Name x px, .Name y py] kt pt] (.Tuple [a, b] k2 pt2) pos.line X.env = pure false := by rfl) :
    PS X (.Assign [.Tuple [.Name x px, .Name y py] kt pt] (.Tuple [a, b] k2 pt2) pos) (tS c w (parF i j f g)) :=
  ps_weak (ps_asg (pe_tup (pa_cons ha (pa_cons hb pa_nil s2) s1)) (pg_tup hc (pgs_cons (pg_name hN hi hx hfx) (pgs_cons (pg_name hN hj hy hfy) pgs_nil))) hs hw) fun D σ H ⟨F, π, gg, s, po⟩ => by
    refine ⟨F, π, gg, s, ?_⟩
    unfold parF at po
    cases e0 : f π with
    | bad => rw [e0] at po; exact po
    | exc C qs π1 => rw [e0] at po; exact fun F' H' d t s => po F' σ H' d t s
    | ok r1 π1 =>
      rw [e0] at po
      intro F1 H1 t1 s1 v hv
      refine ⟨F1, π1, w.mono _ _ t1.le gg, s1, ?_⟩
      simp only [Out.bind] at po
      cases e1 : g π1 with
      | bad => rw [e1] at po; exact po
      | exc C qs π2 => rw [e1] at po; exact fun F' H' d t s => po F' σ H' d (t1.trans t) s
      | ok r2 π2 =>
        rw [e1] at po
        intro F2 H2 t2 s2 u hu
        refine ⟨by rw [sizeLine_eq]; show 2 ≤ _; decide, fun q hq => ⟨q, [v, u], rfl, .of upd_same, rfl, v, [u], rfl, u, [], rfl, rfl, ?_⟩⟩
        have g : Gr F2 H2 F2 (L2.upd H2 q (.tup [v, u])) := gr_lst s2.le hq
        replace s2 := g.sr s2
        replace hu := hu.step g.tr
        replace t2 := t2.trans g.tr
        generalize L2.upd H2 q (.tup [v, u]) = H2 at s2 hu t2
        have hv2 := hv.step t2
        have po2 : PoS c w.W F π σ H ((setR i r1 π2).bind fun _ => setR j r2) (flK c D π σ H) := po
        obtain ⟨π3, e3, s3, t3, o3⟩ := setR_step s2 hv2.rq po2
        rw [e3] at po2
        have po3 : PoS c w.W F π σ H ((setR j r2 π3).bind fun fl π' => .ok fl π') (flK c D π σ H) := by
          have po2' : PoS c w.W F π σ H (setR j r2 π3) (flK c D π σ H) := po2
          cases e5 : setR j r2 π3 with
          | bad => rw [e5] at po2'; exact po2'
          | exc C qs π2 => rw [e5] at po2'; exact po2'
          | ok fl π4 => rw [e5] at po2'; exact po2'
        have T3 := t3 F π σ H (t1.trans t2) fun a o ev er => by
          subst er
          obtain ⟨a', e4, _, _, _, fr⟩ := hv2
          rw [ev] at e4
          cases e4
          exact fr
        have hu3 : RQ c F2 π3 (σ.set i (some v)) H2 r2 u := by
          cases r2 with
          | val p => exact hu
          | bor k => trivial
          | own o =>
            obtain ⟨a2, e4, h1, h2, h3, h4⟩ := hu
            refine ⟨a2, e4, h1, fun z => ?_, h3⟩
            rcases o3 a2 z with q | ⟨q, o1, q2⟩
            · exact h2 q
            · subst q2
              obtain ⟨a1, e5, k1, k2, k3, k4⟩ := hv
              rw [q] at e5
              cases e5
              obtain ⟨uu, hu1⟩ := k3.there
              rcases h4 with h4 | h4
              · rw [hu1] at h4; cases h4
              · exact k2 h4
        obtain ⟨π4, e4, s4, t4, _⟩ := setR_step s3 hu3 po3
        have po4 : PoS c w.W F π σ H (setR j r2 π3) (flK c D π σ H) := po2
        rw [e4] at po4
        refine po4 F2 _ H2 (t4 F π σ H T3 fun a o ev er => ?_) s4
        subst er
        obtain ⟨a', e5, _, _, _, fr⟩ := hu
        rw [ev] at e5
        cases e5
        exact Fr0.back t1 fr
end
end PV

set_option maxHeartbeats 2000000
namespace HT
open PySem PySem.Spec PyProof.Rows L2
section
variable {prog : Program} {w : World} {A : Around} {E : Value → Shared → Prop} {s : Shared}
theorem adjust_rev (n : Nat) : Builtin.Slice.sliceAdjust none none (-1) (n : Int) = ((n : Int) - 1, -1) := by
  unfold Builtin.Slice.sliceAdjust
  have h1 : ((-1 : Int) < 0) := by omega
  simp only [h1, if_true]
theorem places_rev (n : Nat) : Builtin.Slice.slicePlaces ((n : Int) - 1) (-1) (-1) = n := by
  unfold Builtin.Slice.slicePlaces
  rw [if_neg (by omega)]
  by_cases h : n = 0
  · subst h; rfl
  · rw [if_pos (by omega), show (-(-1) : Int) = 1 by omega, Int.ediv_one]
    omega
theorem sliceApplied_rev {sl : Addr} {vl vu vs : Value} {n : Nat} {Q : Int × Int × Nat → Shared → Prop} (hs : s.heap.IsSliceOf sl vl vu vs) (pl : IsPart vl none) (pu : IsPart vu none) (ps : IsPart vs (some (-1)))
    (h : Q ((n : Int) - 1, -1, n) s) : wpAny (model prog w) A (Builtin.Slice.sliceApplied (.ref sl) (pure (n : Int))) Q E s := by
  obtain ⟨os, hos, hcs, hds⟩ := id hs
  unfold Builtin.Slice.sliceApplied Builtin.Slice.sliceFields
  refine wpAny_bind (wpAny_bind (wpAny_field hos hds (x := vl) rfl (wpAny_bind (wpAny_field hos hds (x := vu) rfl (wpAny_bind (wpAny_field hos hds (x := vs) rfl (wpAny_pure ?_)))))))
  refine wpAny_bind (slicePart_ ps ?_)
  show wpAny _ _ (if ((-1 : Int) == 0) = true then _ else _) _ _ s
  rw [if_neg (by decide)]
  refine wpAny_bind (slicePart_ pl (wpAny_bind (slicePart_ pu (wpAny_bind (wpAny_pure ?_)))))
  show wpAny _ _ (match Builtin.Slice.sliceAdjust none none (-1) (n : Int) with | (lo, hi) => pure (lo, (-1 : Int), Builtin.Slice.slicePlaces lo hi (-1))) _ _ s
  rw [adjust_rev n]
  show wpAny _ _ (pure ((n : Int) - 1, (-1 : Int), Builtin.Slice.slicePlaces ((n : Int) - 1) (-1) (-1))) _ _ s
  rw [places_rev]
  exact wpAny_pure h
theorem fm_congr {α β : Type} {f g : α → Option β} : ∀ {l : List α}, (∀ a ∈ l, f a = g a) → l.filterMap f = l.filterMap g
  | [], _ => rfl
  | a :: l, h => by
    have ih := fm_congr (l := l) fun b hb => h b (List.mem_cons_of_mem _ hb)
    have h0 := h a List.mem_cons_self
    simp only [List.filterMap_cons, h0, ih]
theorem pick_rev (xs : Array Value) : ((List.range xs.size).filterMap fun (m : Nat) => xs[(((xs.size : Nat) : Int) - 1 + (m : Int) * (-1)).toNat]?).toArray = xs.toList.reverse.toArray := by
  congr 1
  have e : ∀ m ∈ List.range xs.size, xs[(((xs.size : Nat) : Int) - 1 + (m : Int) * (-1)).toNat]? = xs[xs.size - 1 - m]? := fun m hm => by
    have := List.mem_range.mp hm
    congr 1
    omega
  have e2 := PySem.W.krv_range xs.size
  have e3 : (List.range xs.size).filterMap (fun (m : Nat) => xs[(((xs.size : Nat) : Int) - 1 + (m : Int) * (-1)).toNat]?) = (List.range xs.size).filterMap (fun m => xs[xs.size - 1 - m]?) := fm_congr e
  rw [e3]
  have e4 : (List.range xs.size).filterMap (fun m => xs[xs.size - 1 - m]?) = ((List.range xs.size).map fun k => xs.size - 1 - k).filterMap (xs[·]?) := by rw [List.filterMap_map]; rfl
  rw [e4, e2, List.filterMap_reverse, PySem.W.krv_all]
theorem getItem_tuple_rev {t sl : Addr} {items : Array Value} {vl vu vs : Value} {Q : Value → Shared → Prop} (ht : IsTup s.heap t items) (hs : s.heap.IsSliceOf sl vl vu vs) (pl : IsPart vl none) (pu : IsPart vu none) (ps : IsPart vs (some (-1)))
    (h : Q (.ref s.heap.objs.size) { s with heap := s.heap.push { cls := .type "tuple", data := .seq items.toList.reverse.toArray } })
    (hsz : items.size ≤ sizeLine) : wpAny (model prog w) A (getItem (.ref t) (.ref sl)) Q E s := by
  have htake : sizeOk (.seq items.toList.reverse.toArray) := by
    show items.toList.reverse.toArray.size ≤ sizeLine
    rw [List.size_toArray, List.length_reverse, Array.length_toList]
    exact hsz
  obtain ⟨os, hos, hcs, hds⟩ := id hs
  have hTs : s.TypeIs (.ref sl) "slice" := ⟨os, hos, hcs⟩
  unfold getItem
  try with_reducible refine wpAny_holding ?_
  first | refine wpAny_bind (wpAny_pure ?_) | skip
  refine wpAny_bind (wpAny_sequenceKey ht.typeIs (by decide) ?_)
  refine wpAny_bind (wpAny_callSpecial?_slot (name := Str.ofString "__getitem__") ht.typeIs PyProof.Rows.slot_tuple_getitem
    (wpAny_call_entry PyProof.Rows.slot_tuple_getitem ht.typeIs entry_tuple_getitem ?_ (args_tuple_getitem _ _)))
  show wpAny _ _ (Builtin.Tuple.tupleItemsOf (.ref t) >>= _) _ _ s
  refine wpAny_bind (tupleItemsOf_ ht ?_)
  refine wpAny_bind (wpAny_typeOf hTs ?_)
  rw [if_pos (by decide)]
  refine wpAny_bind (sliceApplied_rev hs pl pu ps ?_)
  have hno : ¬ (((((items.size : Nat) : Int) - 1) == 0 && (-1 : Int) == 1 && items.size == items.size) = true) := by
    intro q
    rw [Bool.and_eq_true, Bool.and_eq_true] at q
    exact absurd q.1.2 (by decide)
  show wpAny _ _ (if ((((items.size : Nat) : Int) - 1) == 0 && (-1 : Int) == 1 && items.size == items.size) = true then _ else _) _ _ s
  rw [if_neg hno, pick_rev]
  first
    | exact wpAny_bind (m := Builtin.Tuple.tupleExact _) (wpAny_newObj_type (wpAny_pure ⟨_, rfl, wpAny_pure h⟩) htake)
    | exact wpAny_bind (m := Builtin.Tuple.tupleExact _) (wpAny_newObj_type (wpAny_bind (wpAny_pure (wpAny_pure ⟨_, rfl, wpAny_pure h⟩))) htake)
    | exact wpAny_bind (wpAny_bind (m := Builtin.Tuple.tupleExact _) (wpAny_newObj_type (wpAny_pure (wpAny_pure ⟨_, rfl, wpAny_pure h⟩)) htake))
    | exact wpAny_bind (wpAny_bind (m := Builtin.Tuple.tupleExact _) (wpAny_newObj_type (wpAny_pure ⟨_, rfl, wpAny_pure h⟩) htake))
end
end HT
namespace PV
open PySem PySem.Spec L2 PyProof.Rows
/-! ### xs[::-1] -/
def tRevLT (K : PySem.W.Frag) (te : TE) : TE := fun σ H Q => te σ H fun x H1 => ∃ a xs, x = .ref a ∧ ((SqL K H1 a xs ∧ ∀ p, H1 p = none → Q (.ref p) (L2.upd H1 p (.lst xs.reverse))) ∨ (SqT K H1 a xs ∧ ∀ p, H1 p = none → Q (.ref p) (L2.upd H1 p (.tup xs.reverse))))
theorem pe_revLT {X : Cx} {e : Expr} {te : TE} {k : Nat} {p1 p2 p3 pos : Pos} (he : PE X e te) : PE X (.Subscript e (.Slice none none (some (.UnaryOp .USub (.Constant (.int 1) k p1) p2)) p3) pos) (tRevLT X.K te) := by
  refine ⟨fun pins s σ H Q I h => ?_⟩
  refine Subscript_ (thn (he.run pins s σ H _ I h) fun v s1 ⟨x, H1, I1, r1, q1⟩ => ?_)
  obtain ⟨a, xs, ex, hx⟩ := q1
  subst ex
  cases r1
  have hst : PO X (some (.UnaryOp .USub (.Constant (.int 1) k p1) p2)) (tPart (tUn (rU fun i => .int (-i)) (tC (.int 1)))) := po_some (pe_un un_neg pe_int)
  refine wpAny_Slice (thn (po_none.run pins s1 σ H1 (fun o H2 => o = none ∧ H2 = H1) I1 ⟨rfl, rfl⟩) fun vl s2 ⟨l, H2, I2, pl, el, e2⟩ => ?_)
  subst el e2
  refine thn (po_none.run pins s2 σ H2 (fun o H3 => o = none ∧ H3 = H2) I2 ⟨rfl, rfl⟩) fun vu s3 ⟨u, H3, I3, pu, eu, e3⟩ => ?_
  subst eu e3
  refine thn (hst.run pins s3 σ H3 (fun o H4 => o = some (-1) ∧ H4 = H3) I3 ⟨1, rfl, -1, rfl, rfl, rfl⟩) fun vs s4 ⟨o, H4, I4, ps, eo, e4⟩ => ?_
  subst eo e4
  have I5 : Inv X pins σ H4 { s4 with heap := s4.heap.push { cls := .type "slice", data := .fields #[vl, vu, vs] } } := I4.kept (t' := s4.toks) fun b ob q => Heap.get?_push_of_some _ q
  rcases hx with ⟨hx, q⟩ | ⟨hx, q⟩
  · obtain ⟨its, r, ht, hz⟩ := I5.list hx
    have hlen := r.length
    show wpAny (model X.prog X.w) X.A (subscriptTail e (.Slice none none (some (.UnaryOp .USub (.Constant (.int 1) k p1) p2)) p3) (.ref a) (.ref s4.heap.objs.size)) (EP X pins σ Q) X.xe { s4 with heap := s4.heap.push { cls := .type "slice", data := .fields #[vl, vu, vs] } }
    refine tail_any (ops := [.ref a, .ref s4.heap.objs.size]) ht.isList.typeIs (PySem.slot_list_getitem.lookup) ?_ (by with_unfolding_all rfl)
    refine wpAny_getItem_list_slice ht.isList (Heap.IsSliceOf.new _ vl vu vs) pl pu ps (by decide) ?_ (by rw [List.size_toArray]; omega)
    rw [PySem.W.krv_pick]
    refine ⟨.ref _, _, I5.laid (t' := s4.toks) (o := .lst xs.reverse) (fun b ob q => Heap.get?_push_of_some _ q) (Nat.le_refl _) ?_, rfl, q _ (I5.hok.fresh (Nat.le_refl _))⟩
    exact ⟨by rw [List.length_reverse]; exact hz, _, 0, r.reverse, Heap.get?_push_size _ rfl⟩
  · obtain ⟨its, r, ht, hz⟩ := I5.tuple hx
    have hlen := r.length
    show wpAny (model X.prog X.w) X.A (subscriptTail e (.Slice none none (some (.UnaryOp .USub (.Constant (.int 1) k p1) p2)) p3) (.ref a) (.ref s4.heap.objs.size)) (EP X pins σ Q) X.xe { s4 with heap := s4.heap.push { cls := .type "slice", data := .fields #[vl, vu, vs] } }
    refine tail_any (ops := [.ref a, .ref s4.heap.objs.size]) ht.typeIs (PyProof.Rows.slot_tuple_getitem.lookup) ?_ (by with_unfolding_all rfl)
    refine HT.getItem_tuple_rev ht (Heap.IsSliceOf.new _ vl vu vs) pl pu ps ?_ (by rw [List.size_toArray]; omega)
    refine ⟨.ref _, _, I5.laid (t' := s4.toks) (o := .tup xs.reverse) (fun b ob q => Heap.get?_push_of_some _ q) (Nat.le_refl _) ?_, rfl, q _ (I5.hok.fresh (Nat.le_refl _))⟩
    exact ⟨by rw [List.length_reverse]; exact hz, its.reverse, r.reverse, ⟨_, Heap.get?_push_size _ rfl, rfl, 0, by simp⟩⟩
def revP : P → Option Rv
  | .lst ps => some (.own (.lst ps.reverse))
  | .tup ps => some (.val (.tup ps.reverse))
  | _ => none
theorem un_weak {c : Ctx} {w : Wi} {f : M Rs} {r : V → Hp → VK → Prop} {o : P → Option Rv} (hv : UnV c r o) : ∀ σ H Q, tE c w (unF o f) σ H Q → tE c w f σ H fun x H1 => r x H1 Q := fun σ H Q ⟨F, π, gg, s, po⟩ => by
    refine ⟨F, π, gg, s, (Po.split po).mono fun r1 π1 F1 H1 t1 s1 p1 x hx => ?_⟩
    unfold op1 at p1
    cases e1 : rdP π1 r1 with
    | none => rw [e1] at p1; exact p1.elim
    | some q1 =>
      rw [e1] at p1
      obtain ⟨rv, e3, k⟩ := outR_post s1 p1
      refine hv F1 H1 q1 x rv Q s1.le (hx.rb s1 e1) e3 fun v F3 H3 gr rn => ?_
      obtain ⟨k1, k2⟩ := k v F3 H3 gr rn
      exact k1 v (k2.base t1)
section
variable {X : Cx} {c : Ctx} {w : Wi} {e : Expr} {f : M Rs} {k : Nat} {p1 p2 p3 pos : Pos}
theorem p_rev (hK : X.K = c.K) (he : PE X e (tE c w f)) : PE X (.Subscript e (.Slice none none (some (.UnaryOp .USub (.Constant (.int 1) k p1) p2)) p3) pos) (tE c w (unF revP f)) :=
  pe_weak (pe_revLT he) fun σ H Q h => by
    have hv : UnV c (fun x H Q => ∃ a xs, x = .ref a ∧ ((SqL c.K H a xs ∧ ∀ p, H p = none → Q (.ref p) (L2.upd H p (.lst xs.reverse))) ∨ (SqT c.K H a xs ∧ ∀ p, H p = none → Q (.ref p) (L2.upd H p (.tup xs.reverse))))) revP := by
      intro F H p x res Q l h1 e k
      unfold revP at e
      split at e
      · cases e
        obtain ⟨a, vs, rfl, q, r⟩ := h1.lst l
        exact ⟨a, vs, rfl, .inl ⟨.of q, fun p hp => k _ _ _ (gr_lst l hp) (rn_lst l hp (rps_reverse r))⟩⟩
      · cases e
        obtain ⟨a, vs, rfl, q, r, z⟩ := h1.tup l
        exact ⟨a, vs, rfl, .inr ⟨q, fun p hp => k _ _ _ (gr_tup l hp) (rn_tup l hp (rps_reverse r))⟩⟩
      · cases e
    have := un_weak hv σ H Q h
    unfold tRevLT
    rw [hK]
    exact this
end
end PV

set_option maxHeartbeats 2000000
namespace PV
open PySem PySem.Spec L2 PyProof.Rows
/-! ### str(i), str(x) -/
def strP : List P → Option Rv
  | [.int i] => if i.natAbs.log2 < 1920 then some (.val (.str (toString i))) else none
  | [.str x] => some (.val (.str x))
  | _ => none
def rStr2 : List V → Hp → VK → Prop := fun xs H Q => (∃ i, xs = [.int i] ∧ i.natAbs.log2 < 1920 ∧ Q (.str (toString i)) H) ∨ (∃ a, xs = [.str a] ∧ Q (.str a) H)
theorem call_str2 {X : Cx} : CallR X (.type "str") rStr2 := CallR.or call_str_int SkE.call_str_str
theorem v_str2 {c : Ctx} : CalV c rStr2 strP := by
  intro F H ps xs res Q l h e k
  unfold strP at e
  split at e
  · split at e
    · rename_i i hi
      cases e
      obtain ⟨v, rfl, h1⟩ := rbs1 h
      cases h1.int
      exact .inl ⟨i, rfl, hi, give l k mk_str⟩
    · cases e
  · cases e
    obtain ⟨v, rfl, h1⟩ := rbs1 h
    cases h1.str
    exact .inr ⟨_, rfl, give l k mk_str⟩
  · cases e
/-! ### a text's slice -/
def slTP : P → Option Int → Option Int → Option Rv
  | .str z, lo, hi => if z.length ≤ 1000000 then some (.val (.str (cutS z lo hi))) else none
  | _, _, _ => none
def slTR (r : Rs) (lo hi : Option Int) : M Rs := fun π => match rdP π r with
  | some p => outR (slTP p lo hi) π
  | none => .bad
def slTF (f : M Rs) (g h : M (Option Int)) : M Rs := fun π => (f π).bind fun r π1 => (g π1).bind fun lo π2 => (h π2).bind fun hi => slTR r lo hi
section
variable {X : Cx} {c : Ctx} {w : Wi} {e tg : Expr} {lo hi : Option Expr} {pos p2 : Pos} {f : M Rs} {fp : M P} {g h : M (Option Int)}
theorem p_slT (he : PE X e (tE c w f)) (hl : PO X lo (tO c w g)) (hu : PO X hi (tO c w h)) : PE X (.Subscript e (.Slice lo hi none p2) pos) (tE c w (slTF f g h)) :=
  pe_weak (pe_slice sl_str he hl hu) fun σ H Q ⟨F, π, gg, s, po⟩ => by
    refine ⟨F, π, gg, s, (Po.split po).mono fun r π1 F1 H1 t1 s1 p1 x hx => ⟨F1, π1, w.mono _ _ t1.le gg, s1, (Po.split p1).mono fun lo π2 F2 H2 t2 s2 p2 => ⟨F2, π2, w.mono _ _ (t1.trans t2).le gg, s2, (Po.split p2).mono fun hi π3 F3 H3 t3 s3 p3 => ?_⟩⟩⟩
    have hz := sizeLine_eq
    unfold slTR at p3
    cases e1 : rdP π3 r with
    | none => rw [e1] at p3; exact p3.elim
    | some q1 =>
      rw [e1] at p3
      obtain ⟨rv, e3, k⟩ := outR_post s3 p3
      unfold slTP at e3
      split at e3
      · split at e3
        · rename_i z hzl
          cases e3
          have hv := ((hx.step (t2.trans t3)).rb s3 e1).str
          subst hv
          refine ⟨z, rfl, by omega, ?_⟩
          obtain ⟨k1, k2⟩ := k (.str (cutS z lo hi)) F3 H3 (Gr.refl s3.le) (mk_str (c := c) (H := F3))
          exact k1 _ (k2.base (t1.trans (t2.trans t3)))
        · cases e3
      · cases e3
/-! ### the signs of a text -/
theorem wk_str {F : Hp} {z : Str} : Wk c F (Its z) (z.cps.toList.map fun n => P.str ⟨#[n]⟩) where
  stop := fun G l => by show z.cps.size ≤ _; simp
  go := fun i G l hi => by show i < z.cps.size; simpa using hi
  yld := fun i p F1 G x G' l1 l2 e y => by
    obtain ⟨rfl, n, hn, rfl⟩ := y
    rw [List.getElem?_map] at e
    have : z.cps.toList[i]? = some n := by simpa using hn
    rw [this] at e
    cases e
    exact ⟨F1, Gr.refl l2, mk_str⟩
def itTR (p : P) : M (List P) := fun π => match p with
  | .str z => if z.length ≤ 1000000 then .ok (z.cps.toList.map fun n => .str ⟨#[n]⟩) π else .bad
  | _ => .bad
def itTF (f : M P) : M (List P) := fun π => (f π).bind itTR
theorem i_text (he : PE X e (tV c w fp)) : PI X tg e (tI c w (itTF fp)) := pi_weak (pi_str he) fun σ H R ⟨F, π, gg, s, po⟩ => by
  refine ⟨F, π, gg, s, (Po.split po).mono fun q π1 F1 H1 t1 s1 p1 v hr => ?_⟩
  have hz := sizeLine_eq
  unfold itTR at p1
  cases q with
  | str z =>
    simp only at p1
    split at p1
    · rename_i hl
      exact ⟨z, rp_str hr, p1 F1 H1 .refl s1 _ wk_str (by rw [List.length_map, Array.length_toList]; have : z.cps.size = z.length := rfl; omega)⟩
    · exact p1.elim
  | _ => exact p1.elim
end
/-! ### in: lists, flat tuples, texts -/
def flatP : P → Bool
  | .non => true
  | .bl _ => true
  | .int _ => true
  | .str _ => true
  | _ => false
def inXP (neg : Bool) : P → P → Option Rv
  | p, .lst ps => inLP neg p (.lst ps)
  | p, .tup ps => if flatP p = true ∧ ps.all flatP = true then ib (if neg = true then !ps.any (fun z => eqv z p) else ps.any fun z => eqv z p) else none
  | .str x, .str z => match x.cps.toList with
    | [n] => ib (if neg = true then !decide (n ∈ z.cps.toList) else decide (n ∈ z.cps.toList))
    | _ => none
  | _, _ => none
def rInX (K : PySem.W.Frag) : R2 := fun x y H Q => rInD K x y H Q ∨ (rIn K false x y H Q ∨ ∃ (c : Nat) (z : Str), x = .str ⟨#[c]⟩ ∧ y = .str z ∧ Q (.bl (decide (c ∈ z.cps.toList))) H)
def rNotInX (K : PySem.W.Frag) : R2 := fun x y H Q => rNotInD K x y H Q ∨ (rIn K true x y H Q ∨ ∃ (c : Nat) (z : Str), x = .str ⟨#[c]⟩ ∧ y = .str z ∧ Q (.bl (!decide (c ∈ z.cps.toList))) H)
theorem op_inX {X : Cx} (hu : X.A.units + 65 < cLine) : OpR X (compareOp .In) (rInX X.K) := OpR.or (op_inD hu) (OpR.or op_in_seq op_in_sign)
theorem op_notInX {X : Cx} (hu : X.A.units + 65 < cLine) : OpR X (compareOp .NotIn) (rNotInX X.K) := OpR.or (op_notInD hu) (OpR.or op_notIn_seq op_notIn_sign)
theorem flat_rp {c : Ctx} {H : Hp} {p : P} {v : V} (f : flatP p = true) (r : Rp c H p v) : flatV v = true ∧ ∀ q u, flatP q = true → Rp c H q u → L2.eqV u v = eqv q p := by
  cases p with
  | non =>
    rw [rp_non r]
    refine ⟨rfl, fun q u hq ru => ?_⟩
    cases q with
    | non => rw [rp_non ru]; rfl
    | bl b => rw [rp_bl ru]; rfl
    | int i => rw [rp_int ru]; rfl
    | str x => rw [rp_str ru]; rfl
    | _ => cases hq
  | bl b =>
    rw [rp_bl r]
    refine ⟨rfl, fun q u hq ru => ?_⟩
    cases q with
    | non => rw [rp_non ru]; rfl
    | bl b => rw [rp_bl ru]; rfl
    | int i => rw [rp_int ru]; rfl
    | str x => rw [rp_str ru]; rfl
    | _ => cases hq
  | int i =>
    rw [rp_int r]
    refine ⟨rfl, fun q u hq ru => ?_⟩
    cases q with
    | non => rw [rp_non ru]; rfl
    | bl b => rw [rp_bl ru]; rfl
    | int i => rw [rp_int ru]; rfl
    | str x => rw [rp_str ru]; rfl
    | _ => cases hq
  | str x =>
    rw [rp_str r]
    refine ⟨rfl, fun q u hq ru => ?_⟩
    cases q with
    | non => rw [rp_non ru]; rfl
    | bl b => rw [rp_bl ru]; rfl
    | int i => rw [rp_int ru]; rfl
    | str x => rw [rp_str ru]; rfl
    | _ => cases hq
  | _ => cases f
theorem flats_rp {c : Ctx} {H : Hp} {p : P} {v : V} (f : flatP p = true) (r : Rp c H p v) : ∀ {ps : List P} {vs : List V}, ps.all flatP = true → Rps c H ps vs → vs.all flatV = true ∧ L2.inV v vs = ps.any fun z => eqv z p
  | [], _, _, rs => by rw [rps_nil_inv rs]; exact ⟨rfl, rfl⟩
  | q :: ps, _, h, rs => by
    obtain ⟨u, t, rfl, h1, h2⟩ := rps_inv rs
    rw [List.all_cons, Bool.and_eq_true] at h
    obtain ⟨a, b⟩ := flats_rp f r h.2 h2
    refine ⟨by rw [List.all_cons, (flat_rp h.1 h1).1, a]; rfl, ?_⟩
    unfold L2.inV at b ⊢
    rw [List.any_cons, List.any_cons, b, (flat_rp f r).2 q u h.1 h1]
theorem v_inX {c : Ctx} : OpV c (rInX c.K) (inXP false) := by
  intro F H p1 p2 x y res Q l h1 h2 e k
  unfold inXP at e
  split at e
  · exact .inl (v_inL F H _ _ x y res Q l h1 h2 e k)
  · split at e
    · rename_i ps hf
      cases e
      obtain ⟨a, vs, rfl, q, r, z⟩ := h2.tup l
      have r1 := h1.rpH l
      obtain ⟨a1, a2⟩ := flats_rp hf.1 r1 hf.2 (Rps.mono l _ _ r)
      exact .inr (.inl ⟨a, vs, rfl, .inr q, (flat_rp hf.1 r1).1, a1, by simp only [Bool.false_eq_true, if_false]; rw [a2]; exact give l k mk_bl⟩)
    · cases e
  · split at e
    · rename_i x z _l n hx
      cases e
      have e1 : x = ⟨#[n]⟩ := by
        cases x with
        | mk cps =>
          congr 1
          exact Array.toList_inj.mp hx
      have v1 := h1.str
      have v2 := h2.str
      subst v1 v2 e1
      exact .inr (.inr ⟨n, z, rfl, rfl, by simpa using give l k mk_bl⟩)
    · cases e
  · cases e
theorem v_ninX {c : Ctx} : OpV c (rNotInX c.K) (inXP true) := by
  intro F H p1 p2 x y res Q l h1 h2 e k
  unfold inXP at e
  split at e
  · exact .inl (v_ninL F H _ _ x y res Q l h1 h2 e k)
  · split at e
    · rename_i ps hf
      cases e
      obtain ⟨a, vs, rfl, q, r, z⟩ := h2.tup l
      have r1 := h1.rpH l
      obtain ⟨a1, a2⟩ := flats_rp hf.1 r1 hf.2 (Rps.mono l _ _ r)
      exact .inr (.inl ⟨a, vs, rfl, .inr q, (flat_rp hf.1 r1).1, a1, by simp only [if_true]; rw [a2]; exact give l k mk_bl⟩)
    · cases e
  · split at e
    · rename_i x z _l n hx
      cases e
      have e1 : x = ⟨#[n]⟩ := by
        cases x with
        | mk cps =>
          congr 1
          exact Array.toList_inj.mp hx
      have v1 := h1.str
      have v2 := h2.str
      subst v1 v2 e1
      exact .inr (.inr ⟨n, z, rfl, rfl, by simpa using give l k mk_bl⟩)
    · cases e
  · cases e
end PV

set_option maxHeartbeats 2000000
namespace PV
open PySem PySem.Spec L2 PyProof.Rows
/-! ### x, y, z = e, e', e'' where a name is read within a comprehension -/
section
variable {X : Cx} {c : Ctx} {w : Ws} {a b d : Expr} {x y z : Str} {px py pz pt pos : Pos} {kt k2 pt2} {i j l : Nat} {fa : M (List Rs)}
theorem s_par3C (hc : X.calm = true) (hN : X.N.Nodup) (hi : X.N[i]? = some x) (hj : X.N[j]? = some y) (hl : X.N[l]? = some z) (hij : i ≠ j) (hil : i ≠ l) (hjl : j ≠ l)
    (hx : Loc X.env.scope x) (hy : Loc X.env.scope y) (hz : Loc X.env.scope z) (ha : PA X [a, b, d] (tR c w fa))
    (hw : swappedStores [.Tuple [.Name x px, .Name y py, .Name z pz] kt pt] (.Tuple [a, b, d] k2 pt2) X.env = pure none := by rfl)
    (hfx : X.fn x = true ∨ X.env.scope.names.lookup x = some .local := by first | exact .inl rfl | exact .inr rfl) (hfy : X.fn y = true ∨ X.env.scope.names.lookup y = some .local := by first | exact .inl rfl | exact .inr rfl)
    (hfz : X.fn z = true ∨ X.env.scope.names.lookup z = some .local := by first | exact .inl rfl | exact .inr rfl)
    (hs : swapsWithSole [.Tuple [.Name x px, .Name y py, .Name z pz] kt pt] (.Tuple [a, b, d] k2 pt2) pos.line X.env = pure false := by rfl) :
    PS X (.Assign [.Tuple [.Name x px, .Name y py, .Name z pz] kt pt] (.Tuple [a, b, d] k2 pt2) pos) (tS c w (par3F i j l fa)) :=
  ps_weak (ps_asg (pe_tup ha) (pg_tup hc (pgs_cons (pg_name hN hi hx hfx) (pgs_cons (pg_name hN hj hy hfy) (pgs_cons (pg_name hN hl hz hfz) pgs_nil)))) hs hw) fun D σ H ⟨F, π, gg, s, po⟩ => by
    refine ⟨F, π, gg, s, ?_⟩
    unfold par3F at po
    cases e0 : fa π with
    | bad => rw [e0] at po; exact po
    | exc C ps π1 => rw [e0] at po; exact fun F' H' d t s => po F' σ H' d t s
    | ok rs π1 =>
    rw [e0] at po
    intro F1 H1 t1 s1 vs hv
    have p1 : PoS c w.W F π σ H (par3R i j l rs π1) (flK c D π σ H) := po
    unfold par3R at p1
    split at p1
    · rename_i r1 r2 r3
      obtain ⟨v1, vs1, rfl, h1, hv1⟩ := hv
      obtain ⟨v2, vs2, rfl, h2, hv2⟩ := hv1
      obtain ⟨v3, vs3, rfl, h3, hv3⟩ := hv2
      have e3 : vs3 = [] := hv3
      subst e3
      refine ⟨by rw [sizeLine_eq]; show 3 ≤ _; decide, fun q hq => ⟨q, [v1, v2, v3], rfl, .of upd_same, rfl, v1, [v2, v3], rfl, v2, [v3], rfl, v3, [], rfl, rfl, ?_⟩⟩
      have g : Gr F1 H1 F1 (L2.upd H1 q (.tup [v1, v2, v3])) := gr_lst s1.le hq
      replace s1 := g.sr s1
      replace h1 := h1.step g.tr
      replace h2 := h2.step g.tr
      replace h3 := h3.step g.tr
      replace t1 := t1.trans g.tr
      generalize L2.upd H1 q (.tup [v1, v2, v3]) = H2 at s1 h1 h2 h3 t1
      by_cases hno : (r1.isOwn && r2.isOwn || r1.isOwn && r3.isOwn || r2.isOwn && r3.isOwn) = false
      case neg => rw [if_neg hno] at p1; exact p1.elim
      rw [if_pos hno] at p1
      have n12 : (r1.isOwn && r2.isOwn) = false := by cases q1 : r1.isOwn <;> cases q2 : r2.isOwn <;> simp_all
      have n13 : (r1.isOwn && r3.isOwn) = false := by cases q1 : r1.isOwn <;> cases q2 : r3.isOwn <;> simp_all
      have n23 : (r2.isOwn && r3.isOwn) = false := by cases q1 : r2.isOwn <;> cases q2 : r3.isOwn <;> simp_all
      have fr : ∀ {r : Rs} {v : V}, RR c π H F1 π1 σ H2 r v → ∀ a o, v = .ref a → r = .own o → Fr0 π σ H a := fun {r v} h a o ev er => by
        subst er
        obtain ⟨a', e4, _, _, _, fr⟩ := h
        rw [ev] at e4; cases e4
        exact fr
      unfold set3R at p1
      obtain ⟨π2, e1, s2, t2, o2⟩ := setR_step s1 h1.rq p1
      rw [e1] at p1
      have T2 := t2 F π σ H t1 (fr h1)
      have p2 : PoS c w.W F π σ H ((setR j r2 π2).bind fun _ π2 => setR l r3 π2) (flK c D π σ H) := p1
      obtain ⟨π3, e2, s3, t3, o3⟩ := setR_step s2 (rq_next h2.rq o2 n12) p2
      rw [e2] at p2
      have T3 := t3 F π σ H T2 (fr h2)
      have p3 : PoS c w.W F π σ H (setR l r3 π3) (flK c D π σ H) := p2
      obtain ⟨π4, e4, s4, t4, o4⟩ := setR_step s3 (rq_next (rq_next h3.rq o2 n13) o3 n23) (bind_ok p3)
      rw [e4] at p3
      exact p3 F1 _ H2 (t4 F π σ H T3 (fr h3)) s4
    · exact p1.elim
end
end PV

set_option maxHeartbeats 4000000
namespace PV
open PySem PySem.Spec L2 PyProof.Rows
/-! ### sorted(set(xs)), len(set(xs)): xs a list of ints and texts -/
/-- the key that a value of a set is -/
def vk (v : Value) : Key := match v with
  | .int i _ => .inl i
  | .str x _ => .inr x
  | _ => .inl 0
def okE (P : Program) (w : World) (e : Int × Value) : Prop := ∃ k : Key, RelV (kV k) e.2 ∧ e.1 = (mixKind P w).hash k
def SetQ (P : Program) (w : World) (h : Heap) (a : Addr) (S : Key → Bool) (n : Nat) : Prop :=
  ∃ o es ep t, (h.get? a = some o ∧ o.ExactSet ∧ o.data = .set es ep t) ∧ (∀ e ∈ es.toList, okE P w e) ∧ (es.toList.map fun e => vk e.2).Nodup ∧ (∀ k, S k = true ↔ k ∈ es.toList.map fun e => vk e.2) ∧
    (es.size < scanBound ∧ t.fits es.size = true ∧ es.size = n) ∧ Ris t.place.toList ∧ (w.params.followText "set-order" = true ∨ t.led = true)
section
variable {P : Program} {w : World} {h h' : Heap} {a : Addr} {S : Key → Bool} {n : Nat}
theorem vk_of {k : Key} {v : Value} (r : RelV (kV k) v) : vk v = k := by
  cases k with
  | inl i => obtain ⟨t, rfl⟩ := (show ∃ t, v = Value.int i t from r); rfl
  | inr x => obtain ⟨t, rfl⟩ := (show ∃ t, v = Value.str x t from r); rfl
theorem okE_is {e : Int × Value} (g : okE P w e) (k : Key) : (mixKind P w).is k e.2 = true ↔ vk e.2 = k := by
  obtain ⟨j, r, _⟩ := g
  rw [vk_of r]
  exact ⟨fun z => (mixKind P w).inj e.2 j k (kV_is r) z, fun z => z ▸ kV_is r⟩
theorem okE_el {l : List (Int × Value)} (g : ∀ e ∈ l, okE P w e) : ElemsOf (mixKind P w) l := fun e he =>
  let ⟨k, r, q⟩ := g e he
  ⟨⟨k, kV_is r, q⟩, key_scan r⟩
theorem SetQ.keep (R : SetQ P w h a S n) (k : ∀ o, h.get? a = some o → h'.get? a = some o) : SetQ P w h' a S n := by
  obtain ⟨o, es, ep, t, ⟨h1, h2⟩, r⟩ := R
  exact ⟨o, es, ep, t, ⟨k o h1, h2⟩, r⟩
theorem SetQ.same {S' : Key → Bool} (R : SetQ P w h a S n) (e : ∀ k, S' k = S k) : SetQ P w h a S' n := by
  rw [show S' = S from funext e]; exact R
end
section
variable {P : Program} {w : World} {A : Around} {E : Value → Shared → Prop} {s : Shared} {a : Addr} {S : Key → Bool} {n : Nat}
theorem q_tail {g : Bool → Sem Unit} (hg : ∀ (b : Bool) (s1 : Shared) (Q' : Unit → Shared → Prop), Q' () s1 → wpAny (model P w) A (g b) Q' E s1)
    {o : Obj} {es es1 : Array (Int × Value)} {ep : Nat} {t t2 : SetTable} {S' : Key → Bool} (ho : s.heap.get? a = some o ∧ o.ExactSet ∧ o.data = .set es ep t)
    (g1 : ∀ e ∈ es1.toList, okE P w e) (nd : (es1.toList.map fun e => vk e.2).Nodup) (m1 : ∀ k, S' k = true ↔ k ∈ es1.toList.map fun e => vk e.2)
    (hb : es1.size < scanBound) (hf : t2.fits es1.size = true) (hr : Ris t2.place.toList) (hl : w.params.followText "set-order" = true ∨ t2.led = true) {was : Bool} {R : Option Bool → Shared → Prop}
    (hR : ∀ h', Heap.SameBut a s.heap h' → SetQ P w h' a S' es1.size → R (some true) { s with heap := h' }) :
    wpAny (model P w) A (do
        storeSet a es1 t2
        if (!was && t2.tooFull) = true then do
            g (relayAll t2 es1 (SetTable.grown es1.size)).2.2
            storeSet a (relayAll t2 es1 (SetTable.grown es1.size)).1 (relayAll t2 es1 (SetTable.grown es1.size)).2.1
            pure (some true)
          else pure (some true)) R E s := by
  obtain ⟨ho, hex, hd⟩ := ho
  have b1 := Heap.SameBut.update s.heap a (Obj.putSet es1 t2)
  have o1 := store_at (es' := es1) (t' := t2) ho hd
  refine wpAny_bind (wpAny_storeSet_of ho hd ?_ (fits_of_scanBound hb))
  split
  · have p1 := relayAll_perm t2 es1 (SetTable.grown es1.size)
    have p2 := relayAll_fits t2 es1 (SetTable.grown es1.size)
    have p3 := relayAll_ris t2 es1 (SetTable.grown es1.size)
    have p4 := relayAll_led t2 es1 (SetTable.grown es1.size)
    generalize relayAll t2 es1 (SetTable.grown es1.size) = Z at p1 p2 p3 p4 ⊢
    obtain ⟨es2, t3, gave⟩ := Z
    dsimp only at p1 p2 p3 p4 ⊢
    have hz : es2.size = es1.size := by rw [← Array.length_toList, p1.length_eq, Array.length_toList]
    refine wpAny_bind (hg _ _ _ (wpAny_bind (wpAny_storeSet_of o1 rfl ?_ (fits_of_scanBound (by rw [hz]; exact hb)))))
    refine wpAny_pure (hR _ (b1.trans (Heap.SameBut.update _ a _)) ?_)
    have pk := p1.map fun e : Int × Value => vk e.2
    exact ⟨_, es2, _, t3, ⟨store_at (es' := es2) (t' := t3) o1 rfl, hex, rfl⟩, fun e he => g1 e (p1.mem_iff.mp he), pk.nodup_iff.mpr nd, fun k => (m1 k).trans pk.mem_iff.symm, ⟨by rw [hz]; exact hb, p2, hz⟩, p3, hl.imp id fun z => p4 ▸ z⟩
  · exact wpAny_pure (hR _ b1 ⟨_, es1, _, t2, ⟨o1, hex, rfl⟩, g1, nd, m1, ⟨hb, hf, rfl⟩, hr, hl⟩)
theorem q_add {k : Key} {v : Value} {Q : Bool → Shared → Prop} (R : SetQ P w s.heap a S n) (rv : RelV (kV k) v) (room : n + 1 < scanBound)
    (hQ : ∀ h', Heap.SameBut a s.heap h' → SetQ P w h' a (fun j => S j || decide (j = k)) (if S k = true then n else n + 1) → Q (!S k) { s with heap := h' }) :
    wpAny (model P w) A (setAddHashed a v ((mixKind P w).hash k)) Q E s := by
  obtain ⟨o, es, ep, t, ⟨ho, hex, hd⟩, g, nd, hm, ⟨hb, hf, hn⟩, hr, hl⟩ := R
  have sc := key_scan rv
  have el := okE_el g
  have mem : ∀ {l : List (Int × Value)}, (∀ e ∈ l, okE P w e) → (k ∈ l.map (fun e => vk e.2) ↔ ∃ e ∈ l, (mixKind P w).is k e.2 = true) := fun {l} gl => by
    rw [List.mem_map]
    exact ⟨fun ⟨e, he, q⟩ => ⟨e, he, (okE_is (gl e he) k).2 q⟩, fun ⟨e, he, q⟩ => ⟨e, he, (okE_is (gl e he) k).1 q⟩⟩
  unfold setAddHashed setAddHashedIn
  refine wpAny_holding (wpAny_bind (wpAny_setState_of ho hd hf ?_))
  dsimp only
  rw [byScan_of sc hb el]
  simp only [↓reduceIte]
  unfold setAddByScan
  refine wpAny_bind (wpAny_bind (wpAny_rule (wpAny_bind (wpAny_setScan_of (kV_is rv) ho hd hf el ?_))))
  cases hfi : List.findIdx? (fun e => (mixKind P w).is k e.2) es.toList with
  | some j =>
    obtain ⟨hj, pj, _⟩ := List.findIdx?_eq_some_iff_getElem.mp hfi
    have hS : S k = true := (hm k).2 ((mem g).2 ⟨es.toList[j], List.getElem_mem hj, pj⟩)
    dsimp only
    refine wpAny_pure (wpAny_pure ?_)
    have q := hQ s.heap (Heap.SameBut.refl a s.heap) ⟨o, es, ep, t, ⟨ho, hex, hd⟩, g, nd, fun i => by
      rw [← hm i, Bool.or_eq_true, decide_eq_true_eq]
      exact ⟨fun z => z.elim id (fun e => e ▸ hS), .inl⟩, ⟨hb, hf, by rw [if_pos hS]; exact hn⟩, hr, hl⟩
    rw [hS] at q
    exact q
  | none =>
    dsimp only
    have hk : k ∉ es.toList.map fun e => vk e.2 := fun z => by
      obtain ⟨e, he, q⟩ := (mem g).1 z
      have := List.findIdx?_eq_none_iff.mp hfi e he
      rw [q] at this
      cases this
    have hS : S k = false := by
      cases q : S k with
      | false => rfl
      | true => exact absurd ((hm k).1 q) hk
    have hw : ∀ (b : Bool) {s1 : Shared} {Q' : Unit → Shared → Prop}, Q' () s1 → wpAny (model P w) A (match b with | true => rule "set.scan.the-table-gave-way" | false => pure ()) Q' E s1 := fun b s1 Q' q => by
      cases b
      · exact wpAny_pure q
      · exact wpAny_rule q
    have p1 := layNew_perm t es ((mixKind P w).hash k) v
    have p2 := layNew_fits t es ((mixKind P w).hash k) v
    have p3 := layNew_ris t es ((mixKind P w).hash k) v hr
    have p4 := layNew_led t es ((mixKind P w).hash k) v
    generalize layNew t es ((mixKind P w).hash k) v = Z at p1 p2 p3 p4 ⊢
    obtain ⟨es1, t1, was, gave⟩ := Z
    dsimp only at p1 p2 p3 p4 ⊢
    rw [Array.toList_push] at p1
    have pc : es1.toList.Perm (((mixKind P w).hash k, v) :: es.toList) := p1.trans (List.perm_append_singleton _ _)
    have pk : (es1.toList.map fun e => vk e.2).Perm (k :: es.toList.map fun e => vk e.2) := by
      have := pc.map fun e : Int × Value => vk e.2
      rw [List.map_cons] at this
      rwa [show vk ((mixKind P w).hash k, v).2 = k from vk_of rv] at this
    have g1 : ∀ e ∈ es1.toList, okE P w e := fun e he => by
      rcases List.mem_cons.mp (pc.mem_iff.mp he) with z | z
      · exact z ▸ ⟨k, rv, rfl⟩
      · exact g e z
    have nd1 := pk.nodup_iff.mpr (List.nodup_cons.mpr ⟨hk, nd⟩)
    have m1 : ∀ i, (S i || decide (i = k)) = true ↔ i ∈ es1.toList.map fun e => vk e.2 := fun i => by
      rw [pk.mem_iff, List.mem_cons, Bool.or_eq_true, decide_eq_true_eq, hm i]
      exact Or.comm
    have hz : es1.size = n + 1 := by rw [← Array.length_toList, pc.length_eq, List.length_cons, Array.length_toList, hn]
    have hb1 : es1.size < scanBound := hz ▸ room
    have hl1 : w.params.followText "set-order" = true ∨ t1.led = true := hl.imp id fun z => p4 ▸ z
    have fin : ∀ h', Heap.SameBut a s.heap h' → SetQ P w h' a (fun j => S j || decide (j = k)) es1.size → Q true { s with heap := h' } := fun h' sb r => by
      have q := hQ h' sb
      rw [hS] at q
      rw [hz] at r
      exact q r
    refine wpAny_bind (hw _ ?_)
    split
    · refine wpAny_bind ?_
      rw [hashByValue_scannable 8 sc]
      refine wpAny_pure (q_tail ?_ ⟨ho, hex, hd⟩ g1 nd1 m1 hb1 ?_ ?_ ?_ ?_)
      · exact fun b s1 Q' q => hw b q
      · first | (split <;> first | exact p2 | exact SetTable.fits_plain_off p2) | exact p2
      · first | (split <;> exact p3) | exact p3
      · first | (split <;> exact hl1) | exact hl1
      · exact fun h' sb r => wpAny_pure (fin h' sb r)
    · refine wpAny_bind (wpAny_pure ?_)
      simp only [↓reduceIte]
      refine q_tail ?_ ⟨ho, hex, hd⟩ g1 nd1 m1 hb1 p2 p3 hl1 ?_
      · exact fun b s1 Q' q => hw b q
      · exact fun h' sb r => wpAny_pure (fin h' sb r)
def inK (ks : List Key) (k : Key) : Bool := ks.any fun x => decide (x = k)
theorem inK_iff {ks : List Key} {k : Key} : inK ks k = true ↔ k ∈ ks := by
  unfold inK
  rw [List.any_eq_true]
  exact ⟨fun ⟨x, h1, h2⟩ => of_decide_eq_true h2 ▸ h1, fun h => ⟨k, h, decide_eq_true rfl⟩⟩
abbrev fso (w : World) : Obj := { cls := .type "set", dict := none, data := .set #[] 0 (.fresh 0 0 (!w.params.followText "set-order")) }
theorem q_new {h : Heap} (ho : h.get? a = some (fso w)) : SetQ P w h a (fun _ => false) 0 :=
  ⟨_, #[], 0, _, ⟨ho, ⟨rfl, rfl, rfl⟩, rfl⟩, (fun e he => by simp at he), by simp, (fun k => by simp), ⟨by decide, rfl, rfl⟩, List.Pairwise.nil, by
    show _ ∨ (!w.params.followText "set-order") = true
    cases w.params.followText "set-order"
    · exact .inr rfl
    · exact .inl rfl⟩
theorem q_update {I : Addr} {fp wr : List Addr} {G : Array GenState → Array GenState → Prop} {m : Nat} {Pv : Nat → Value → Prop} {St : Nat → Shared → Prop} {R : Result → Shared → Prop}
    (W : WalksS P w A.in1 I fp wr G m Pv St) (T : Addr) (hT : T ∉ fp) (ks : List Key) (hm : m = ks.length) (hb : ks.length + 1 < scanBound) (hv : ∀ i v, Pv i v → ∃ k, ks[i]? = some k ∧ RelV (kV k) v) :
    ∀ (j i : Nat) (s : Shared), m - i = j → i ≤ m → St i s → (∃ c, c ≤ i ∧ SetQ P w s.heap T (fun k => inK (ks.take i) k) c) →
      (∀ s' c, Moved (T :: wr) G s s' → c ≤ m → SetQ P w s'.heap T (fun k => inK ks k) c → R (.ok (.ret .none)) s') →
      codeAny (model P w) A (.builtin "set.update.loop" ⟨[.ref T, .ref I], []⟩) R s := by
  have hTw : T ∉ wr := fun z => hT (W.sub _ z)
  have sub : ∀ b ∈ wr, b ∈ T :: wr := fun b z => List.mem_cons_of_mem _ z
  intro j
  induction j with
  | zero =>
    intro i s e hi hst ⟨c, hc, hS⟩ hR
    obtain rfl : i = m := by omega
    rw [List.take_of_length_le (show ks.length ≤ i by omega)] at hS
    refine codeAny_builtin F.entry_set_update_loop ?_
    rw [Around.under_plainId F.plain_set_update_loop _]
    show wpAny _ A.in1 (pyNext (.ref I) >>= _) _ _ s
    refine wpAny_bind (W.done s _ _ hst fun s' mv => ?_)
    show wpAny _ A.in1 (ret Value.none) _ _ s'
    exact wpAny_pure (hR s' c (mv.mono sub) hc (hS.keep fun o q => mv.heap T o hTw q))
  | succ j ih =>
    intro i s e hi hst ⟨c, hc, hS⟩ hR
    have lt : i < m := by omega
    refine codeAny_builtin F.entry_set_update_loop ?_
    rw [Around.under_plainId F.plain_set_update_loop _]
    show wpAny _ A.in1 (pyNext (.ref I) >>= _) _ _ s
    refine wpAny_bind (W.item i s _ _ lt hst fun v s' hP hst' mv => ?_)
    obtain ⟨k, hk, rv⟩ := hv i v hP
    have hS' : SetQ P w s'.heap T (fun k => inK (ks.take i) k) c := hS.keep fun o q => mv.heap T o hTw q
    show wpAny _ A.in1 (holding [v] (setAdd T v) >>= _) _ _ s'
    refine wpAny_bind (wpAny_holding ?_)
    unfold setAdd
    refine wpAny_holding (wpAny_bind ((mixKind P w).pyHash (k := k) (kV_is rv) ?_))
    refine q_add (s := { s' with toks := s'.toks + 1 }) hS' rv (by omega) fun h' sb hS2 => ?_
    have hS3 : SetQ P w h' T (fun k => inK (ks.take (i + 1)) k) (if inK (ks.take i) k = true then c else c + 1) := hS2.same fun x => by
      unfold inK
      rw [List.take_add_one, hk, Option.toList_some, List.any_append]
      simp [eq_comm]
    have hc3 : (if inK (ks.take i) k = true then c else c + 1) ≤ i + 1 := by split <;> omega
    refine wpAny_pure ⟨plainId_quiet F.plain_set_update_loop _, ih (i + 1) _ (by omega) lt (W.frame _ s' _ _ hst' (Nat.le_succ _) fun b hb o q => ?_) ⟨_, hc3, hS3⟩ fun s2 c2 mv2 hc2 hS4 => ?_⟩
    · rw [sb.2 b (fun z : b = T => hT (z ▸ hb))]; exact q
    · refine hR s2 c2 (Moved.trans W.gtrans ((mv.mono sub).then_heap (Nat.le_succ _) fun b o hb q => ?_) mv2) hc2 hS4
      rw [sb.2 b (fun z : b = T => hb (z ▸ List.mem_cons_self))]; exact q
set_option maxHeartbeats 8000000 in
theorem set_ofK {l : Addr} {items : Array Value} (ks : List Key) {Q : Value → Shared → Prop} (hh : A.handled = none) (hl : s.heap.IsList l items) (hv : ∀ (i : Nat) (v : Value), items[i]? = some v → ∃ k, ks[i]? = some k ∧ RelV (kV k) v) (hz : items.size = ks.length) (hb : ks.length + 1 < scanBound)
    (h : ∀ (h' : Heap) (tk c : Nat), SetQ P w h' s.heap.objs.size (fun k => inK ks k) c → c ≤ ks.length → (∀ b o, s.heap.get? b = some o → h'.get? b = some o) → Q (.ref s.heap.objs.size) { s with heap := h', toks := tk }) :
    wpAny (model P w) A (call (.type "set") [.ref l]) Q E s := by
  obtain ⟨c0, tl, hmro⟩ := F.called_set.mro
  have hmade := F.called_set.made
  have hsub := F.called_set.sub
  have h1 := F.called_set.notType
  have h2 := F.called_set.canCreate
  have hct := F.typeCall_set_1 (.ref l)
  refine wpAny_call (codeAny_of_tree ?_)
  show wpAny _ _ (callAny (.type "set") _) _ _ _
  refine wpAny_pure ⟨Code.quiet_builtin _ (by decide +kernel), codeAny_builtin F.entry_type_call ?_⟩
  rw [Around.under_plain (weight_type_call_type "set" [.ref l] []) rfl]
  repeat (any_goals (first | assumption | wp_step))
  refine codeAny_mono (code_set_led1 (.ref l) (E := E) (Q₁ := fun obj s1 => obj = .ref s.heap.objs.size ∧ s1 = { s with heap := s.heap.push (fso w) }) ⟨rfl, rfl⟩) fun r s1 hr => ?_
  cases r with
  | error e => exact hr
  | ok fl =>
    cases fl with
    | ret obj =>
      obtain ⟨rfl, rfl⟩ := hr
      have hS : (s.heap.push (fso w)).get? s.heap.objs.size = some (fso w) := Heap.get?_push_size _ rfl
      have hT : Shared.TypeIs { s with heap := s.heap.push (fso w) } (.ref s.heap.objs.size) "set" := ⟨_, hS, rfl⟩
      have hli := F.called_set.init.lookup
      have hbi := F.called_set.init.bind (.ref s.heap.objs.size)
      repeat (any_goals (first | assumption | wp_step))
      refine codeAny_mono (codeAny_call_builtin (R := wants (fun r s2 => r = .none ∧ ∃ h' tk c, s2 = { s with heap := h', toks := tk } ∧ SetQ P w h' s.heap.objs.size (fun k => inK ks k) c ∧ c ≤ ks.length ∧
          (∀ b o, s.heap.get? b = some o → h'.get? b = some o)) E) F.called_set.init.plain F.entry_set_init (check_set_init_1 hT ?_)) fun r2 s2 hr2 => ?_
      · obtain ⟨⟨ocls, odict, odata, oslots⟩, hol, hcl, nl, hdl⟩ := hl
        simp only at hcl hdl
        subst hcl; subst hdl
        have hol' : (s.heap.push (fso w)).get? l = some { cls := .type "list", dict := odict, data := .seq items nl, slots := oslots } := Heap.get?_push_of_some _ hol
        have hsls := F.sub_list_set
        have hslf := F.sub_list_frozenset
        have hne : (Value.type "list" == Value.type "dict") = false := by decide
        have hl1 : (s.heap.push (fso w)).IsList l items := ⟨_, hol', rfl, nl, rfl⟩
        unfold Builtin.«set.__init__» noKeywords Builtin.Frozenset.updateFrom
        generalize hPI : pyIter = PI
        wp_walk
        subst hPI
        refine wpAny_pyIter_list hl1 ?_
        refine wpAny_bind (wpAny_runValue ?_)
        have lS : l < s.heap.objs.size := Heap.lt_size hol
        have hh3 : A.in1.in1.in1.handled = none := by simp [hh]
        have hneI : l ≠ (s.heap.push (fso w)).objs.size := by rw [Heap.size_push]; exact Nat.ne_of_lt (Nat.lt_succ_of_lt lS)
        refine q_update ((Walks.list hh3 _ l hneI items).toS) s.heap.objs.size (by rw [Heap.size_push]; simp only [List.mem_cons, List.not_mem_nil, or_false, not_or]; exact ⟨Nat.ne_of_lt (Nat.lt_succ_self _), Nat.ne_of_gt lS⟩) ks hz hb hv (items.size - 0) 0 _ (by omega) (Nat.zero_le _) ⟨⟨_, Heap.get?_push_size _ rfl, rfl, rfl⟩, (hl1.push _)⟩ ?hS0 ?hR
        case hS0 => exact ⟨0, Nat.le_refl 0, (q_new (Heap.get?_push_of_some _ hS)).same fun k => rfl⟩
        case hR =>
          intro s' c' mv hc' hS'
          obtain ⟨h', g2, d', tk', os'⟩ := s'
          obtain rfl : g2 = s.gens := mv.gens
          obtain rfl : d' = s.drawn := mv.drawn
          obtain rfl : os' = s.os := mv.os
          show wpAny _ _ _ _ _ _
          refine wpAny_pure ?_
          show wpAny _ _ (ret Value.none) _ _ _
          refine wpAny_pure ⟨rfl, h', tk', c', rfl, hS', by rw [hz] at hc'; exact hc', fun b o e => ?_⟩
          have b0 : b < s.heap.objs.size := Heap.lt_size e
          refine mv.heap b o (fun q => ?_) (Heap.get?_push_of_some _ (Heap.get?_push_of_some _ e))
          rw [Heap.size_push] at q
          simp only [List.mem_cons, List.not_mem_nil, or_false] at q
          rcases q with q | q
          · exact Nat.ne_of_lt b0 q
          · exact Nat.ne_of_lt (Nat.lt_succ_of_lt b0) q
      · cases r2 with
        | error e => exact hr2
        | ok fl2 =>
          cases fl2 with
          | ret r =>
            obtain ⟨rfl, h', tk, c, rfl, hS', hc', hk'⟩ := hr2
            repeat (any_goals (first | assumption | wp_step))
            exact h _ _ _ hS' hc' hk'
          | _ => exact hr2.elim
    | _ => exact hr.elim
end
end PV

set_option maxHeartbeats 4000000
namespace PV
open PySem PySem.Spec L2 PyProof.Rows
/-! ### sorted(set(xs)) -/
section
variable {α : Type} [DecidableEq α]
/-- each once -/
def dd : List α → List α
  | [] => []
  | a :: l => if (dd l).any (fun b => decide (b = a)) = true then dd l else a :: dd l
theorem any_mem {l : List α} {a : α} : (l.any fun b => decide (b = a)) = true ↔ a ∈ l := by
  rw [List.any_eq_true]
  exact ⟨fun ⟨x, h1, h2⟩ => of_decide_eq_true h2 ▸ h1, fun h => ⟨a, h, decide_eq_true rfl⟩⟩
theorem dd_mem {a : α} : ∀ {l : List α}, a ∈ dd l ↔ a ∈ l
  | [] => Iff.rfl
  | b :: l => by
    unfold dd
    split
    · rename_i h
      rw [any_mem, dd_mem] at h
      rw [dd_mem, List.mem_cons]
      exact ⟨.inr, fun z => z.elim (fun e => e ▸ h) id⟩
    · rw [List.mem_cons, List.mem_cons, dd_mem]
theorem dd_nodup : ∀ {l : List α}, (dd l).Nodup
  | [] => List.nodup_nil
  | b :: l => by
    unfold dd
    split
    · exact dd_nodup
    · rename_i h
      exact List.nodup_cons.mpr ⟨fun z => h (any_mem.mpr z), dd_nodup⟩
theorem dd_len : ∀ {l : List α}, (dd l).length ≤ l.length
  | [] => Nat.le_refl _
  | b :: l => by
    have := dd_len (l := l)
    unfold dd
    split
    · exact Nat.le_succ_of_le this
    · exact Nat.succ_le_succ this
end
def keyD : Key → PyData
  | .inl i => .int i
  | .inr x => .str x
/-- ints alone or texts alone -/
def oneKind (ks : List Key) : Bool := (ks.all fun k => k.isLeft) || (ks.all fun k => k.isRight)
theorem oneKind_of {ks : List Key} (h : oneKind ks = true) : (∃ ns : List Int, ks = ns.map Sum.inl) ∨ ∃ xs : List Str, ks = xs.map Sum.inr := by
  unfold oneKind at h
  rw [Bool.or_eq_true, List.all_eq_true, List.all_eq_true] at h
  rcases h with h | h
  · left
    induction ks with
    | nil => exact ⟨[], rfl⟩
    | cons k ks ih =>
      obtain ⟨ns, e⟩ := ih fun x hx => h x (List.mem_cons_of_mem _ hx)
      cases k with
      | inl i => exact ⟨i :: ns, by rw [e]; rfl⟩
      | inr x => exact absurd (h _ List.mem_cons_self) Bool.false_ne_true
  · right
    induction ks with
    | nil => exact ⟨[], rfl⟩
    | cons k ks ih =>
      obtain ⟨ns, e⟩ := ih fun x hx => h x (List.mem_cons_of_mem _ hx)
      cases k with
      | inr i => exact ⟨i :: ns, by rw [e]; rfl⟩
      | inl x => exact absurd (h _ List.mem_cons_self) Bool.false_ne_true
theorem map_inl {ks : List Key} {ns : List Int} (h : ∀ k ∈ ks, k ∈ ns.map Sum.inl) : ∃ ms : List Int, ks = ms.map Sum.inl := by
  induction ks with
  | nil => exact ⟨[], rfl⟩
  | cons k ks ih =>
    obtain ⟨ms, e⟩ := ih fun x hx => h x (List.mem_cons_of_mem _ hx)
    obtain ⟨i, _, hi⟩ := List.mem_map.mp (h k List.mem_cons_self)
    exact ⟨i :: ms, by rw [e, ← hi]; rfl⟩
theorem map_inr {ks : List Key} {ns : List Str} (h : ∀ k ∈ ks, k ∈ ns.map Sum.inr) : ∃ ms : List Str, ks = ms.map Sum.inr := by
  induction ks with
  | nil => exact ⟨[], rfl⟩
  | cons k ks ih =>
    obtain ⟨ms, e⟩ := ih fun x hx => h x (List.mem_cons_of_mem _ hx)
    obtain ⟨i, _, hi⟩ := List.mem_map.mp (h k List.mem_cons_self)
    exact ⟨i :: ms, by rw [e, ← hi]; rfl⟩
theorem str_ext {x y : Str} (h : x.cps.toList = y.cps.toList) : x = y := by
  obtain ⟨⟨x⟩⟩ := x
  obtain ⟨⟨y⟩⟩ := y
  have : x = y := h
  rw [this]
def leK : Key → Key → Bool := PySem.W.dataLe false keyD
theorem leK_int (a b : Int) : leK (.inl a) (.inl b) = decide (a ≤ b) := congrFun (congrFun (PySem.W.dataLe_int (β := Int) id) a) b
theorem leK_str (a b : Str) : leK (.inr a) (.inr b) = decide (a.cps.toList ≤ b.cps.toList) := congrFun (congrFun (PySem.W.dataLe_str (β := Str) id) a) b
theorem sort_int (ns : List Int) : (ns.map Sum.inl : List Key).mergeSort leK = (ns.mergeSort fun a b => decide (a ≤ b)).map Sum.inl := by
  symm
  exact List.map_mergeSort fun a _ b _ => (leK_int a b).symm
theorem sort_str (xs : List Str) : (xs.map Sum.inr : List Key).mergeSort leK = (xs.mergeSort fun a b => decide (a.cps.toList ≤ b.cps.toList)).map Sum.inr := by
  symm
  exact List.map_mergeSort fun a _ b _ => (leK_str a b).symm
theorem ii_sorted (ns : List Int) : (ns.mergeSort fun a b => decide (a ≤ b)).Pairwise (· ≤ ·) :=
  (List.pairwise_mergeSort (fun a b c h1 h2 => by simp at h1 h2 ⊢; omega) (fun a b => by simp; omega) ns).imp fun h => of_decide_eq_true h
theorem ss_sorted (xs : List Str) : (xs.mergeSort fun a b => decide (a.cps.toList ≤ b.cps.toList)).Pairwise fun a b => a.cps.toList ≤ b.cps.toList :=
  (List.pairwise_mergeSort (le := fun a b : Str => decide (a.cps.toList ≤ b.cps.toList)) (fun a b c h1 h2 => decide_eq_true (List.le_trans (of_decide_eq_true h1) (of_decide_eq_true h2))) (fun a b => by
    rcases List.le_total a.cps.toList b.cps.toList with h | h <;> simp [h]) xs).imp fun h => of_decide_eq_true h
/-- the same keys, once each, sort alike -/
theorem sort_same {ks js : List Key} (h1 : oneKind ks = true) (hn : js.Nodup) (hm : ∀ k, k ∈ js ↔ k ∈ ks) : js.mergeSort leK = (dd ks).mergeSort leK := by
  rcases oneKind_of h1 with ⟨ns, rfl⟩ | ⟨xs, rfl⟩
  · obtain ⟨ms, rfl⟩ := map_inl (ks := js) fun k hk => (hm k).mp hk
    obtain ⟨ls, e⟩ := map_inl (ks := dd (ns.map Sum.inl)) (ns := ns) fun k hk => dd_mem.mp hk
    have hp : ms.Perm ls := by
      have n2 : (ls.map Sum.inl : List Key).Nodup := e ▸ dd_nodup
      have inj : ∀ {l : List Int}, (l.map Sum.inl : List Key).Nodup → l.Nodup := fun h => (List.pairwise_map.mp h).imp fun {a b} h q => h (congrArg Sum.inl q)
      refine (List.perm_ext_iff_of_nodup (inj hn) (inj n2)).mpr fun a => ?_
      have := hm (.inl a)
      rw [← dd_mem (l := ns.map Sum.inl), e] at this
      simpa using this
    rw [e, sort_int, sort_int]
    congr 1
    exact ((List.mergeSort_perm _ _).trans (hp.trans (List.mergeSort_perm _ _).symm)).eq_of_pairwise (fun a b _ _ h1 h2 => Int.le_antisymm h1 h2) (ii_sorted _) (ii_sorted _)
  · obtain ⟨ms, rfl⟩ := map_inr (ks := js) fun k hk => (hm k).mp hk
    obtain ⟨ls, e⟩ := map_inr (ks := dd (xs.map Sum.inr)) (ns := xs) fun k hk => dd_mem.mp hk
    have hp : ms.Perm ls := by
      have n2 : (ls.map Sum.inr : List Key).Nodup := e ▸ dd_nodup
      have inj : ∀ {l : List Str}, (l.map Sum.inr : List Key).Nodup → l.Nodup := fun h => (List.pairwise_map.mp h).imp fun {a b} h q => h (congrArg Sum.inr q)
      refine (List.perm_ext_iff_of_nodup (inj hn) (inj n2)).mpr fun a => ?_
      have := hm (.inr a)
      rw [← dd_mem (l := xs.map Sum.inr), e] at this
      simpa using this
    rw [e, sort_str, sort_str]
    congr 1
    exact ((List.mergeSort_perm _ _).trans (hp.trans (List.mergeSort_perm _ _).symm)).eq_of_pairwise (fun a b _ _ h1 h2 => str_ext (List.le_antisymm h1 h2)) (ss_sorted _) (ss_sorted _)
section
open PySem.W PySem.Calls
variable {P : Program} {w : World} {A : Around} {E : Value → Shared → Prop} {s : Shared} {a : Addr} {S : Key → Bool} {n : Nat}
theorem kind_all {ks : List Key} (h : oneKind ks = true) : AllAlike (ks.map keyD) ∧ Sortable (ks.map keyD) := by
  constructor
  · rcases oneKind_of h with ⟨ns, rfl⟩ | ⟨xs, rfl⟩
    · intro d hd d' hd'
      simp only [List.map_map, List.mem_map] at hd hd'
      obtain ⟨i, _, rfl⟩ := hd
      obtain ⟨j, _, rfl⟩ := hd'
      rfl
    · intro d hd d' hd'
      simp only [List.map_map, List.mem_map] at hd hd'
      obtain ⟨i, _, rfl⟩ := hd
      obtain ⟨j, _, rfl⟩ := hd'
      rfl
  · right
    intro d hd
    obtain ⟨k, _, rfl⟩ := List.mem_map.mp hd
    cases k <;> exact ⟨nofun, fun _ => nofun⟩
theorem each_self : ∀ {vs : List Value}, (∀ v ∈ vs, RelV (kV (vk v)) v) → EachIs (fun v (k : Key) => RelV (kV k) v) vs (vs.map vk)
  | [], _ => .nil
  | v :: vs, h => .cons (h v List.mem_cons_self) (each_self fun x hx => h x (List.mem_cons_of_mem _ hx))
theorem rel_reads {h : Heap} {k : Key} {v : Value} (r : RelV (kV k) v) : ∃ as, Reads h v (keyD k) as := by
  cases k with
  | inl i => obtain ⟨t, rfl⟩ := (show ∃ t, v = Value.int i t from r); exact ⟨_, .int i t⟩
  | inr x => obtain ⟨t, rfl⟩ := (show ∃ t, v = Value.str x t from r); exact ⟨_, .str x t⟩
theorem sorted_q {Q : Value → Shared → Prop} (R : SetQ P w s.heap a S n) (hh : A.handled = none) (ks : List Key) (h1 : oneKind ks = true) (hS : ∀ k, S k = true ↔ k ∈ ks) (hu : A.units + 60 < cLine)
    (hQ : ∀ s' p (out : List Value) (c : Nat), (∀ b o, s.heap.get? b = some o → s'.heap.get? b = some o) → s'.gens = s.gens → s'.os = s.os → s.heap.objs.size ≤ p →
      s'.heap.get? p = some (seqObj "list" out.toArray c) → EachIs (fun v (k : Key) => RelV (kV k) v) out ((dd ks).mergeSort leK) → Q (.ref p) s') :
    wpAny (model P w) A (call (.builtin "sorted") [.ref a]) Q E s := by
  obtain ⟨o, es, ep, t, ⟨ho, hex, hd⟩, g, nd, hm, ⟨hb, hf, hn⟩, hr, hl⟩ := R
  refine Calls.call_function_entry kind_sorted plain_sorted entry_sorted (args_sorted1 _) ?_
  unfold Builtin.«sorted»
  refine wpAny_bind (m := checkCount "sorted" 1 1 _) (wpAny_pure ?_)
  refine wpAny_bind (collect_set (A := A.in1) hh ⟨o, ho, hex.1, hd⟩ hf hb hr hl fun s1 vs k1 hz g1 o1 pm => ?_)
  have pk : (vs.map vk).Perm (es.toList.map fun e => vk e.2) := by
    have q := pm.map vk
    rw [List.map_map] at q
    exact q
  have hrel : EachIs (fun v (k : Key) => RelV (kV k) v) vs (vs.map vk) := by
    have : ∀ v ∈ vs, RelV (kV (vk v)) v := fun v hv => by
      obtain ⟨e, he, q⟩ := List.mem_map.mp (pm.mem_iff.mp hv)
      obtain ⟨k, r, _⟩ := g e he
      rw [← q, vk_of r]
      exact r
    exact each_self this
  have hmem : ∀ k, k ∈ vs.map vk ↔ k ∈ ks := fun k => by rw [pk.mem_iff, ← hm k, hS k]
  have hok : oneKind (vs.map vk) = true := by
    rcases oneKind_of h1 with ⟨ns, e⟩ | ⟨xs, e⟩
    · obtain ⟨ms, e2⟩ := map_inl (ks := vs.map vk) (ns := ns) fun k hk => e ▸ (hmem k).mp hk
      rw [e2]; unfold oneKind; simp
    · obtain ⟨ms, e2⟩ := map_inr (ks := vs.map vk) (ns := xs) fun k hk => e ▸ (hmem k).mp hk
      rw [e2]; unfold oneKind; simp
  obtain ⟨hal, hsr⟩ := kind_all hok
  have hvl : vs.length ≤ sizeLine := by
    have hvn : vs.length = es.size := by rw [pm.length_eq]; simp
    have h2 : scanBound ≤ sizeLine := by decide
    omega
  refine wpAny_bind (wpAny_newList ?_ hvl)
  have hoL : (s1.heap.push (seqObj "list" vs.toArray 0)).get? s1.heap.objs.size = some (seqObj "list" vs.toArray 0) := Heap.get?_push_size _ rfl
  have er : EachIs (fun v (k : Key) => ∃ as, Reads (sortingHeap (s1.heap.push (seqObj "list" vs.toArray 0)) s1.heap.objs.size vs) v (keyD k) as) vs (vs.map vk) := hrel.mono fun _ _ r => rel_reads r
  have SA := SortsAt.data (prog := P) (w := w) (A := A.in1.in1) (s := { s1 with heap := sortingHeap (s1.heap.push (seqObj "list" vs.toArray 0)) s1.heap.objs.size vs }) (each_map (R := fun v d => ∃ as, Reads (sortingHeap (s1.heap.push (seqObj "list" vs.toArray 0)) s1.heap.objs.size vs) v d as) keyD er) hal hsr (by
    intro d hd
    obtain ⟨k, _, rfl⟩ := List.mem_map.mp hd
    show A.units + 2 + (keyD k).depth < cLine
    have : (keyD k).depth ≤ 1 := by cases k <;> simp [keyD, PyData.depth]
    omega)
  refine wpAny_bind (wpAny_holding (wpAny_call_entry slot_list_sort ⟨_, hoL, rfl⟩ entry_list_sort ?body (args_list_sort _)))
  case body =>
    refine wpAny_mono (list_sort_vals (s := { s1 with heap := s1.heap.push (seqObj "list" vs.toArray 0) }) (P := fun f s' => f = .done (.ret .none) ∧ Q (.ref s1.heap.objs.size) s') hoL SA hvl ⟨rfl, ?_⟩) (fun f s' hf => ?_) fun _ _ e => e
    · obtain ⟨c, hc⟩ := sortedHeap_at (vs := vs) (out := (sortVals (dataKind (sortingHeap (s1.heap.push (seqObj "list" vs.toArray 0)) s1.heap.objs.size vs) ((vs.map vk).map keyD)) false vs vs).toArray) hoL
      refine hQ _ s1.heap.objs.size _ c (fun b u e => ?_) g1 o1 hz hc ?_
      · have q := k1 b u e
        have lt := Heap.lt_size q
        show (sortedHeap (s1.heap.push (seqObj "list" vs.toArray 0)) s1.heap.objs.size vs _).get? b = some u
        rw [sortedHeap_old (Nat.ne_of_lt lt) (by rw [size_push']; exact Nat.lt_succ_of_lt lt)]
        exact Heap.get?_push_of_some _ q
      · have := sortVals_data false hrel er hal
        have e2 := sort_same h1 (pk.nodup_iff.mpr nd) hmem
        unfold leK at e2 ⊢
        rw [← e2]
        exact this
    · obtain ⟨rfl, hq⟩ := hf
      exact ⟨_, rfl, wpAny_pure ⟨_, rfl, hq⟩⟩
end
end PV

set_option maxHeartbeats 4000000
namespace PV
open PySem PySem.Spec L2 PyProof.Rows
/-! ### sorted(set(xs)) as one expression -/
def SetQO (P : Program) (w : World) (a : Addr) (S : Key → Bool) (n : Nat) : HO := .ext fun h => SetQ P w h a S n
theorem setQO_new {P : Program} {w : World} {H : Hp} {h : Heap} {a : Addr} {S : Key → Bool} {n : Nat} (R : SetQ P w h a S n) : ObjOk P w H h a (SetQO P w a S n) := by
  obtain ⟨o, _, _, _, ⟨ho, _⟩, _⟩ := id R
  exact ⟨R, ⟨o, ho⟩, fun h1 h2 p k => SetQ.keep p k⟩
theorem vals_at : ∀ {ks : List Key} {us : List Value}, Vals (ks.map kV) us → ∀ (i : Nat) (v : Value), us[i]? = some v → ∃ k, ks[i]? = some k ∧ RelV (kV k) v
  | [], _, .nil, i, v, e => by simp at e
  | k :: ks, _, .cons r t, 0, v, e => by
    simp at e; subst e
    exact ⟨k, rfl, r⟩
  | k :: ks, _, .cons r t, i + 1, v, e => by
    obtain ⟨k', h1, h2⟩ := vals_at t i v (by simpa using e)
    exact ⟨k', by simpa using h1, h2⟩
theorem each_valsK : ∀ {ks : List Key} {us : List Value}, PySem.W.EachIs (fun v (k : Key) => RelV (kV k) v) us ks → Vals (ks.map kV) us
  | _, _, .nil => .nil
  | _, _, .cons h t => .cons h (each_valsK t)
section
variable {X : Cx}
def rSetQ (K : PySem.W.Frag) (P : Program) (w : World) : List V → Hp → VK → Prop := fun xs H Q => ∃ (l : Addr) (ks : List Key), xs = [V.ref l] ∧ SqL K H l (ks.map kV) ∧ ks.length + 1 < scanBound ∧
  ∀ a c, H a = none → Q (.ref a) (upd H a (SetQO P w a (inK ks) c))
theorem cr_setQ (hc : X.calm = true) : CallR X (.type "set") (rSetQ X.K X.prog X.w) := by
  intro pins s σ H xs us Q I r h
  obtain ⟨l, ks, rfl, hl, hb, q⟩ := h
  rw [Vals.ref1 r]
  obtain ⟨its, rv, pl, hz⟩ := I.list hl
  have hn : H s.heap.objs.size = none := I.hok.fresh (Nat.le_refl _)
  have hlen := rv.length
  rw [List.length_map] at hlen
  refine set_ofK (P := X.prog) (w := X.w) (items := its.toArray) ks (I.ok.hd hc) pl.isList (fun i v e => vals_at rv i v (by simpa using e)) (by simpa using hlen.symm) hb fun h' tk c R hc k => ?_
  exact ⟨.ref s.heap.objs.size, upd H s.heap.objs.size (SetQO X.prog X.w s.heap.objs.size (inK ks) c), I.laid (t' := tk) k (Nat.le_refl _) (setQO_new R), rfl, q _ _ hn⟩
def rSortQ (P : Program) (w : World) : List V → Hp → VK → Prop := fun xs H Q => ∃ (a : Addr) (ks : List Key) (c : Nat), xs = [V.ref a] ∧ H a = some (SetQO P w a (inK ks) c) ∧ oneKind ks = true ∧ ks.length ≤ sizeLine ∧
  ∀ p, H p = none → Q (.ref p) (upd H p (.lst (((dd ks).mergeSort leK).map kV)))
theorem cr_sortQ (hc : X.calm = true) (hu : X.A.units + 65 < cLine) : CallR X (.builtin "sorted") (rSortQ X.prog X.w) := by
  intro pins s σ H vs us Q I r h
  obtain ⟨a, ks, c, rfl, ha, h1, hz, q⟩ := h
  have R : SetQ X.prog X.w s.heap a (inK ks) c := (I.hok a _ ha).1
  rw [Vals.ref1 r]
  refine sorted_q R (I.ok.hd hc) ks h1 (fun k => inK_iff) (by omega) fun s' p out c' k g o hp hg hout => ?_
  have hlen : (((dd ks).mergeSort leK).map kV).length ≤ sizeLine := by
    rw [List.length_map, List.length_mergeSort]
    exact Nat.le_trans dd_len hz
  have hn : H p = none := I.hok.fresh hp
  have J : Inv X pins σ (upd H p (.lst (((dd ks).mergeSort leK).map kV))) { s with heap := s'.heap, gens := s'.gens, drawn := s'.drawn, toks := s'.toks } :=
    I.call (ch := []) (Un.laid k hp hn) (I.hok.laid k hp ⟨hlen, out, c', each_valsK hout, hg⟩) (by rw [g]; exact I.bare) (fun _ z => nomatch z)
  have e : s' = { s with heap := s'.heap, gens := s'.gens, drawn := s'.drawn, toks := s'.toks } := by
    cases s'
    cases s
    cases o
    rfl
  rw [e]
  exact ⟨.ref p, _, J, rfl, q p hn⟩
end
def ksOf : List P → Option (List Key)
  | [] => some []
  | .int i :: ps => (ksOf ps).map (.inl i :: ·)
  | .str x :: ps => (ksOf ps).map (.inr x :: ·)
  | _ => none
/-- sorted(set(xs)) -/
def sortSetP : List P → Option Rv
  | [.lst ps] => (ksOf ps).bind fun ks => if oneKind ks = true ∧ ks.length ≤ 4000 then some (.own (.lst (((dd ks).mergeSort leK).map keyP))) else none
  | _ => none
theorem rp_kV {c : Ctx} {H : Hp} {k : Key} {v : V} : Rp c H (keyP k) v ↔ v = kV k := by
  cases k <;> (unfold keyP Rp; exact Iff.rfl)
theorem ks_rps {c : Ctx} {H : Hp} : ∀ {ps : List P} {ks : List Key} {vs : List V}, ksOf ps = some ks → Rps c H ps vs → vs = ks.map kV
  | [], ks, vs, e, r => by
    cases e
    rw [rps_nil_inv r]; rfl
  | p :: ps, ks, vs, e, r => by
    obtain ⟨v, t, rfl, r1, r2⟩ := rps_inv r
    cases p with
    | int i =>
      have e' : (ksOf ps).map (Sum.inl i :: ·) = some ks := e
      cases e1 : ksOf ps with
      | none => rw [e1] at e'; cases e'
      | some js =>
        rw [e1] at e'
        cases e'
        rw [ks_rps e1 r2, rp_int r1]; rfl
    | str x =>
      have e' : (ksOf ps).map (Sum.inr x :: ·) = some ks := e
      cases e1 : ksOf ps with
      | none => rw [e1] at e'; cases e'
      | some js =>
        rw [e1] at e'
        cases e'
        rw [ks_rps e1 r2, rp_str r1]; rfl
    | _ => cases e
theorem rps_kV {c : Ctx} {H : Hp} : ∀ ks : List Key, Rps c H (ks.map keyP) (ks.map kV)
  | [] => rps_nil
  | k :: ks => rps_cons (rp_kV.mpr rfl) (rps_kV ks)
theorem Gr.trans {F H F1 H1 F2 H2 : Hp} (a : Gr F H F1 H1) (b : Gr F1 H1 F2 H2) : Gr F H F2 H2 := by
  refine ⟨a.le.trans b.le, b.le', fun x o h => b.keep x o (a.keep x o h), fun x h => ?_⟩
  rcases b.new x h with q | q
  · exact a.new x q
  · right
    cases e : H x with
    | none => rfl
    | some o => rw [a.keep x o e] at q; cases q
theorem v_sortSet {c : Ctx} {P : Program} {w : World} : CalV c (fun xs H Q => rSetQ c.K P w xs H fun v H1 => rSortQ P w [v] H1 Q) sortSetP := by
  intro F H ps xs res Q l h e k
  have hsz := sizeLine_eq
  have hsb : (4002 : Nat) < scanBound := by decide
  unfold sortSetP at e
  split at e
  · rename_i qs
    cases e1 : ksOf qs with
    | none => rw [e1] at e; cases e
    | some ks =>
      rw [e1] at e
      simp only [Option.bind_some] at e
      split at e
      · rename_i hk
        cases e
        obtain ⟨v, rfl, hv⟩ := rbs1 h
        obtain ⟨a, vs, rfl, q, r⟩ := hv.lst l
        rw [ks_rps e1 r] at q
        refine ⟨a, ks, rfl, .of q, by omega, fun b c' hb => ⟨b, ks, c', rfl, upd_same, hk.1, by omega, fun p hp => ?_⟩⟩
        have hbp : p ≠ b := fun z => by rw [z, upd_same] at hp; cases hp
        have hp' : H p = none := by rwa [upd_ne hbp] at hp
        have g1 : Gr F H F (upd H b (SetQO P w b (inK ks) c')) := gr_lst l hb
        refine k _ _ _ (g1.trans (gr_lst g1.le' hp)) ⟨p, rfl, hp', l.gone hp', _, upd_same, rps_kV _⟩
      · cases e
  · cases e
section
variable {X : Cx} {c : Ctx} {w : Wi} {p pos p2 pos2 : Pos} {e : Expr} {fa : M (List Rs)}
theorem p_sortSet (hc : X.calm = true) (hu : X.A.units + 65 < cLine) (hK : c.K = X.K) (hg : Gl X "sorted") (hm : X.mg "sorted" = none) (hb : bootBuiltins "sorted" = some (.builtin "sorted")) (hg2 : Gl X "set") (hm2 : X.mg "set" = none) (hb2 : bootBuiltins "set" = some (.type "set"))
    (ha : PA X [e] (tR c w fa)) (he : starEach [e] X.env = (false, eval e X.env) :: starEach [] X.env := by rfl) (hpl : (backTo pos2 (starEach [] X.env)).any (·.1) = false := by rfl)
    (he2 : starEach [.Call (.Name "set" p2) [e] [] pos2] X.env = (false, eval (.Call (.Name "set" p2) [e] [] pos2) X.env) :: starEach [] X.env := by rfl) (hpl2 : (backTo pos (starEach [] X.env)).any (·.1) = false := by rfl) :
    PE X (.Call (.Name "sorted" p) [.Call (.Name "set" p2) [e] [] pos2] [] pos) (tE c w (calF sortSetP fa)) := by
  have h1 := pe_callTy (p := p2) (cr_setQ hc) hg2 hm2 hb2 ha (by decide) (by decide) he hpl
  have h2 := pe_callB (p := p) (cr_sortQ hc hu) hg hm hb (pa_cons h1 pa_nil he2) (by decide) (by decide) he2 hpl2
  refine pe_weak h2 fun σ H Q q => ?_
  have := cal_weak (v_sortSet (c := c) (P := X.prog) (w := X.w)) σ H Q q
  rw [hK] at this
  exact this
end
theorem bb_set : bootBuiltins "set" = some (.type "set") := by decide +kernel
end PV

set_option maxHeartbeats 4000000
namespace PV
open PySem PySem.Spec L2 PyProof.Rows
/-! ### dicts with ints and texts as keys -/
abbrev Dc := List (Key × P)
def dcK (d : Dc) : List P := d.map fun x => keyP x.1
def dcV (d : Dc) : List P := d.map fun x => x.2
/-- the dict as a value, as an object of its own -/
def dP (d : Dc) : P := .dct false (dcK d) (dcV d)
def dO (d : Dc) : O := .dct false (dcK d) (dcV d)
@[simp] theorem dO_P {d : Dc} : (dO d).toP = dP d := rfl
def kvP : P → Option Dc
  | .dct false ks vs => (ksOf ks).map fun k => k.zip vs
  | _ => none
theorem ksOf_map : ∀ ks : List Key, ksOf (ks.map keyP) = some ks
  | [] => rfl
  | .inl i :: ks => by
    show (ksOf (ks.map keyP)).map (Sum.inl i :: ·) = _
    rw [ksOf_map ks]; rfl
  | .inr x :: ks => by
    show (ksOf (ks.map keyP)).map (Sum.inr x :: ·) = _
    rw [ksOf_map ks]; rfl
@[simp] theorem kvP_d (d : Dc) : kvP (dP d) = some d := by
  show (ksOf (dcK d)).map (fun k => k.zip (dcV d)) = _
  rw [show dcK d = (d.map (·.1)).map keyP by unfold dcK; rw [List.map_map]; rfl, ksOf_map]
  show some ((d.map (·.1)).zip (d.map (·.2))) = _
  congr 1
  induction d with
  | nil => rfl
  | cons x d ih => rw [List.map_cons, List.map_cons, List.zip_cons_cons, ih]
def keyQ : P → Option Key
  | .int i => some (.inl i)
  | .str x => some (.inr x)
  | _ => none
@[simp] theorem keyQ_i {i : Int} : keyQ (.int i) = some (.inl i) := rfl
@[simp] theorem keyQ_s {x : Str} : keyQ (.str x) = some (.inr x) := rfl
theorem keyQ_of {p : P} {k : Key} (h : keyQ p = some k) : p = keyP k := by
  cases p <;> first | (cases h; rfl) | cases h
theorem keyP_inj {k j : Key} (h : keyP k = keyP j) : k = j := by
  cases k <;> cases j <;> simp [keyP] at h <;> rw [h]
def getD' (d : Dc) (k : Key) : Option P := (d.find? fun x => decide (x.1 = k)).map (·.2)
def putD' (d : Dc) (k : Key) (p : P) : Dc := if (d.any fun x => decide (x.1 = k)) = true then d.map (fun x => if x.1 = k then (x.1, p) else x) else d ++ [(k, p)]
def mergeD' (d e : Dc) : Dc := e.foldl (fun a x => putD' a x.1 x.2) d
/-- the tracked dict kvs stands for d -/
def DR (c : Ctx) (F : Hp) (d : Dc) (kvs : List (Key × V)) : Prop := d.map (·.1) = kvs.map (·.1) ∧ Rps c F (dcV d) (kvs.map (·.2))
section
variable {c : Ctx} {F H : Hp} {d e : Dc} {kvs more : List (Key × V)} {k : Key} {p : P} {v : V}
theorem DR.nil : DR c F [] [] := ⟨rfl, rps_nil⟩
theorem DR.cons {x : Key × P} {y : Key × V} (h : x.1 = y.1) (r : Rp c F x.2 y.2) (t : DR c F d kvs) : DR c F (x :: d) (y :: kvs) := ⟨by rw [List.map_cons, List.map_cons, h, t.1], rps_cons r t.2⟩
theorem DR.inv {x : Key × P} (h : DR c F (x :: d) kvs) : ∃ y r, kvs = y :: r ∧ x.1 = y.1 ∧ Rp c F x.2 y.2 ∧ DR c F d r := by
  obtain ⟨h1, h2⟩ := h
  cases kvs with
  | nil => cases h1
  | cons y r =>
    rw [List.map_cons, List.map_cons] at h1
    obtain ⟨v, t, e1, e2, e3⟩ := rps_inv (show Rps c F (x.2 :: dcV d) (y.2 :: r.map (·.2)) from h2)
    cases e1
    exact ⟨y, r, rfl, (List.cons.inj h1).1, e2, (List.cons.inj h1).2, e3⟩
theorem DR.ninv (h : DR c F [] kvs) : kvs = [] := by
  cases kvs with
  | nil => rfl
  | cons y r => cases h.1
theorem DR.len (h : DR c F d kvs) : d.length = kvs.length := by
  have := congrArg List.length h.1
  simpa using this
theorem DR.mono (h : DR c F d kvs) (l : Le F H) : DR c H d kvs := ⟨h.1, Rps.mono l _ _ h.2⟩
theorem DR.get (k : Key) : ∀ {d : Dc} {kvs : List (Key × V)}, DR c F d kvs → (∀ p, getD' d k = some p → ∃ v, valV kvs k = some v ∧ Rp c F p v) ∧ (getD' d k = none → valV kvs k = none)
  | [], kvs, h => by
    rw [h.ninv]
    exact ⟨fun p e => by simp [getD'] at e, fun _ => rfl⟩
  | x :: d, kvs, h => by
    obtain ⟨y, r, rfl, e1, e2, e3⟩ := h.inv
    have ih := DR.get k e3
    by_cases z : x.1 = k
    · rw [valV_pos (e1 ▸ z), show getD' (x :: d) k = some x.2 by simp [getD', z]]
      exact ⟨fun p e => ⟨_, rfl, by cases e; exact e2⟩, fun e => by cases e⟩
    · rw [valV_neg (e1 ▸ z), show getD' (x :: d) k = getD' d k by simp [getD', z]]
      exact ih
theorem DR.any : ∀ {d : Dc} {kvs : List (Key × V)}, DR c F d kvs → (d.any fun x => decide (x.1 = k)) = kvs.any fun x => decide (x.1 = k)
  | [], kvs, h => by rw [h.ninv]; rfl
  | x :: d, kvs, h => by
    obtain ⟨y, r, rfl, e1, e2, e3⟩ := h.inv
    rw [List.any_cons, List.any_cons, DR.any e3, e1]
theorem DR.app : ∀ {d : Dc} {kvs : List (Key × V)}, DR c F d kvs → Rp c F p v → DR c F (d ++ [(k, p)]) (kvs ++ [(k, v)])
  | [], kvs, h, q => by
    rw [h.ninv]
    exact DR.cons rfl q .nil
  | x :: d, kvs, h, q => by
    obtain ⟨y, r, rfl, e1, e2, e3⟩ := h.inv
    exact DR.cons e1 e2 (DR.app e3 q)
theorem DR.rep : ∀ {d : Dc} {kvs : List (Key × V)}, DR c F d kvs → Rp c F p v → DR c F (d.map fun x => if x.1 = k then (x.1, p) else x) (kvs.map fun x => if x.1 = k then (x.1, v) else x)
  | [], kvs, h, q => by
    rw [h.ninv]
    exact .nil
  | x :: d, kvs, h, q => by
    obtain ⟨y, r, rfl, e1, e2, e3⟩ := h.inv
    rw [List.map_cons, List.map_cons]
    refine DR.cons ?_ ?_ (DR.rep e3 q)
    · rw [e1]; split <;> first | rfl | exact e1
    · rw [e1]; split <;> first | exact q | exact e2
theorem DR.put (h : DR c F d kvs) (q : Rp c F p v) : DR c F (putD' d k p) (putK kvs k v) := by
  unfold putD' putK
  rw [h.any]
  split
  · exact h.rep q
  · exact h.app q
theorem DR.merge : ∀ {e : Dc} {more : List (Key × V)} {d : Dc} {kvs : List (Key × V)}, DR c F e more → DR c F d kvs → DR c F (mergeD' d e) (mergeK kvs more)
  | [], more, d, kvs, h, q => by
    rw [h.ninv]
    exact q
  | x :: e, more, d, kvs, h, q => by
    obtain ⟨y, r, rfl, e1, e2, e3⟩ := h.inv
    have q2 : DR c F (putD' d x.1 x.2) (putK kvs y.1 y.2) := by rw [e1]; exact q.put e2
    show DR c F (mergeD' (putD' d x.1 x.2) e) (mergeK (putK kvs y.1 y.2) r)
    exact DR.merge e3 q2
theorem putK_nodup {kvs : List (Key × V)} {k : Key} {v : V} (h : (kvs.map (·.1)).Nodup) : ((putK kvs k v).map (·.1)).Nodup := by
  unfold putK
  split
  · have e : (kvs.map fun x => if x.1 = k then (x.1, v) else x).map (·.1) = kvs.map (·.1) := by
      rw [List.map_map]
      refine List.map_congr_left fun x _ => ?_
      show (if x.1 = k then (x.1, v) else x).1 = x.1
      split <;> rfl
    rw [e]; exact h
  · rename_i z
    rw [List.map_append, List.nodup_append]
    refine ⟨h, by simp, fun x hx y hy e => z ?_⟩
    rw [List.map_singleton, List.mem_singleton] at hy
    obtain ⟨q, hq, rfl⟩ := List.mem_map.mp hx
    rw [List.any_eq_true]
    exact ⟨q, hq, decide_eq_true (e.trans hy)⟩
theorem mergeK_nodup : ∀ {more kvs : List (Key × V)}, (kvs.map (·.1)).Nodup → ((mergeK kvs more).map (·.1)).Nodup
  | [], _, h => h
  | x :: more, kvs, h => mergeK_nodup (more := more) (putK_nodup h)
theorem putD_len {d : Dc} {k : Key} {p : P} : (putD' d k p).length ≤ d.length + 1 := by
  unfold putD'
  split
  · rw [List.length_map]; omega
  · simp
/-- what a dict value is in the heap -/
theorem rp_dct (h : kvP p = some d) (r : Rp c H p v) : ∃ a kvs, v = .ref a ∧ Rd H a (.dK kvs) ∧ DR c H d kvs ∧ (kvs.map (·.1)).Nodup := by
  cases p with
  | dct t ks ws =>
    cases t with
    | true => cases h
    | false =>
      unfold Rp at r
      obtain ⟨a, vs, rfl, r1, q⟩ := r
      obtain ⟨kvs, q1, q2, q3, q4⟩ := q
      have h' : (ksOf ks).map (fun k => k.zip ws) = some d := h
      have e1 : ksOf ks = some (kvs.map (·.1)) := by
        rw [q2, show kvs.map (fun q => keyP q.1) = (kvs.map (·.1)).map keyP by rw [List.map_map]; rfl, ksOf_map]
      rw [e1] at h'
      cases h'
      have hl := rps_len r1
      rw [q3, List.length_map] at hl
      refine ⟨a, kvs, rfl, q1, ⟨?_, ?_⟩, q4⟩
      · rw [List.map_fst_zip (by simp [hl])]
      · unfold dcV
        rw [show (((kvs.map (·.1)).zip ws).map fun x => x.2) = ws from List.map_snd_zip (by simp [hl]), ← q3]
        exact r1
  | _ => cases h
theorem mk_dct {a : Addr} (h : Rd H a (.dK kvs)) (r : DR c H d kvs) (hn : (kvs.map (·.1)).Nodup) : Rp c H (dP d) (.ref a) := by
  unfold dP Rp
  refine ⟨a, kvs.map (·.2), rfl, r.2, kvs, h, ?_, rfl, hn⟩
  unfold dcK
  rw [show d.map (fun x => keyP x.1) = (d.map (·.1)).map keyP by rw [List.map_map]; rfl, r.1, List.map_map]; rfl
theorem ow_dct {a : Addr} {ks ws : List P} (h : kvP (.dct false ks ws) = some d) (r : OwR c F H (.dct false ks ws) a) : ∃ kvs, H a = some (.dK kvs) ∧ DR c F d kvs ∧ (kvs.map (·.1)).Nodup := by
  obtain ⟨vs, r1, q⟩ := r
  obtain ⟨kvs, q1, q2, q3, q4⟩ := q
  have h' : (ksOf ks).map (fun k => k.zip ws) = some d := h
  have e1 : ksOf ks = some (kvs.map (·.1)) := by
    rw [q2, show kvs.map (fun q => keyP q.1) = (kvs.map (·.1)).map keyP by rw [List.map_map]; rfl, ksOf_map]
  rw [e1] at h'
  cases h'
  have hl := rps_len r1
  rw [q3, List.length_map] at hl
  refine ⟨kvs, q1, ⟨?_, ?_⟩, q4⟩
  · rw [List.map_fst_zip (by simp [hl])]
  · unfold dcV
    rw [show (((kvs.map (·.1)).zip ws).map fun x => x.2) = ws from List.map_snd_zip (by simp [hl]), ← q3]
    exact r1
theorem mk_own {a : Addr} (h : H a = some (.dK kvs)) (r : DR c F d kvs) (hn : (kvs.map (·.1)).Nodup) : OwR c F H (dO d) a := by
  refine ⟨kvs.map (·.2), r.2, kvs, h, ?_, rfl, hn⟩
  unfold dcK
  rw [show d.map (fun x => keyP x.1) = (d.map (·.1)).map keyP by rw [List.map_map]; rfl, r.1, List.map_map]; rfl
theorem Rb.dct (l : Le F H) (h : kvP p = some d) (r : Rb c F H p v) : ∃ a kvs, v = .ref a ∧ Rd H a (.dK kvs) ∧ DR c F d kvs ∧ (kvs.map (·.1)).Nodup := by
  rcases r with r | ⟨a, o, e, h1, h2⟩
  · obtain ⟨a, kvs, e, q1, q2, q3⟩ := rp_dct h r
    exact ⟨a, kvs, e, l.rd q1, q2, q3⟩
  · subst e
    cases o with
    | dct t ks ws =>
      subst h2
      cases t with
      | true => cases h
      | false =>
        obtain ⟨kvs, q1, q2, q3⟩ := ow_dct h h1
        exact ⟨a, kvs, rfl, .of q1, q2, q3⟩
    | lst ps => subst h2; cases h
    | obj C ps => subst h2; cases h
theorem Rb.key {k : Key} (h : keyQ p = some k) (r : Rb c F H p v) : v = kV k := by
  cases p with
  | int i => cases h; exact r.int
  | str x => cases h; exact r.str
  | _ => cases h
end
/-! d[k], k in d -/
def ixDP (p q : P) : Option Rv := match kvP p, keyQ q with
  | some d, some k => (getD' d k).map .val
  | _, _ => none
def inDP (b : Bool) (q p : P) : Option Rv := match kvP p, keyQ q with
  | some d, some k => some (.val (.bl (if b = true then !(getD' d k).isSome else (getD' d k).isSome)))
  | _, _ => none
def rGetD : R2 := fun x y H Q => ∃ a v, x = .ref a ∧ DGet H a y (some v) ∧ Q v H
def rInD (b : Bool) : R2 := fun y x H Q => ∃ a o, x = .ref a ∧ DGet H a y o ∧ Q (.bl (if b = true then !o.isSome else o.isSome)) H
section
variable {X : Cx} {c : Ctx} {w : Wi} {a b : Expr} {f g h : M Rs} {pos apos cpos : Pos}
theorem v_ixD : OpV c rGetD ixDP := by
  intro F H p q x y res Q l h1 h2 e k
  unfold ixDP at e
  split at e
  · rename_i d kk e1 e2
    cases e3 : getD' d kk with
    | none => rw [e3] at e; cases e
    | some r =>
      rw [e3] at e
      cases e
      obtain ⟨ad, kvs, rfl, q1, q2, q3⟩ := h1.dct l e1
      have hy := h2.key e2
      subst hy
      obtain ⟨v, e4, r1⟩ := (DR.get kk q2).1 r e3
      exact ⟨ad, v, rfl, .inl ⟨kvs, kk, q1, rfl, e4.symm⟩, give l k r1⟩
  · cases e
theorem p_ixD (hu : X.A.units + 1 < cLine) (ha : PE X a (tE c w f)) (hb : PE X b (tE c w g)) (hs : NoSl b) : PE X (.Subscript a b pos) (tE c w (binF ixDP f g)) :=
  pe_weak (pe_dget hu ha hb hs) fun σ H Q q => bin_weak v_ixD σ H Q q
theorem op_inD (hu : X.A.units + 1 < cLine) : OpR X (compareOp .In) (rInD false) := by
  intro pins s σ H x y v u Q I rx ry ⟨ad, o, e, g, q⟩
  subst e
  obtain rfl : u = Value.ref ad := ry
  exact d_in hu I g rx fun s2 I2 => ⟨.bl o.isSome, H, I2, rfl, q⟩
theorem op_ninD (hu : X.A.units + 1 < cLine) : OpR X (compareOp .NotIn) (rInD true) := by
  intro pins s σ H x y v u Q I rx ry ⟨ad, o, e, g, q⟩
  subst e
  obtain rfl : u = Value.ref ad := ry
  exact d_notIn hu I g rx fun s2 I2 => ⟨.bl (!o.isSome), H, I2, rfl, q⟩
theorem v_inD (bb : Bool) : OpV c (rInD bb) (inDP bb) := by
  intro F H p q x y res Q l h1 h2 e k
  unfold inDP at e
  split at e
  · rename_i d kk e1 e2
    cases e
    obtain ⟨ad, kvs, rfl, q1, q2, q3⟩ := h2.dct l e1
    have hy := h1.key e2
    subst hy
    refine ⟨ad, valV kvs kk, rfl, .inl ⟨kvs, kk, q1, rfl, rfl⟩, ?_⟩
    have : (getD' d kk).isSome = (valV kvs kk).isSome := by
      cases e3 : getD' d kk with
      | none => rw [(DR.get kk q2).2 e3]; rfl
      | some r =>
        obtain ⟨v, e4, _⟩ := (DR.get kk q2).1 r e3
        rw [e4]; rfl
    rw [this] at k
    exact give l k mk_bl
  · cases e
/-! d.get(k), d.get(k, x) -/
def isDP (p : P) : Bool := (kvP p).isSome
def get2P (p q z : P) : Option Rv := match kvP p, keyQ q with
  | some d, some k => some (.val ((getD' d k).getD z))
  | _, _ => none
def get1F (f g : M Rs) : M Rs := fun π => (f π).bind fun r1 π1 => match rdP π1 r1 with
  | some p => if isDP p = true then (g π1).bind fun r2 => op2 (fun p q => get2P p q .non) r1 r2 else .bad
  | none => .bad
def get2F (f g : M Rs) (h : M P) : M Rs := fun π => (f π).bind fun r1 π1 => match rdP π1 r1 with
  | some p => if isDP p = true then (g π1).bind fun r2 π2 => (h π2).bind fun z => op2 (fun p q => get2P p q z) r1 r2 else .bad
  | none => .bad
theorem Rb.isD {F H : Hp} {p : P} {v : V} (l : Le F H) (h : isDP p = true) (r : Rb c F H p v) : ∃ a, v = .ref a ∧ IsD H a := by
  unfold isDP at h
  cases e : kvP p with
  | none => rw [e] at h; cases h
  | some d =>
    obtain ⟨a, kvs, e1, q1, _⟩ := r.dct l e
    exact ⟨a, e1, .inl ⟨kvs, q1⟩⟩
theorem get2_post {F H : Hp} {p q z : P} {x y u : V} {rv : Rv} (l : Le F H) (h1 : Rb c F H p x) (h2 : Rb c F H q y) (h3 : Rp c F z u) (e : get2P p q z = some rv) :
    ∃ a o, x = .ref a ∧ DGet H a y o ∧ ∃ r, rv = .val r ∧ Rp c F r (o.getD u) := by
  unfold get2P at e
  split at e
  · rename_i d kk e1 e2
    cases e
    obtain ⟨ad, kvs, rfl, q1, q2, q3⟩ := h1.dct l e1
    have hy := h2.key e2
    subst hy
    refine ⟨ad, valV kvs kk, rfl, .inl ⟨kvs, kk, q1, rfl, rfl⟩, _, rfl, ?_⟩
    cases e3 : getD' d kk with
    | none => rw [(DR.get kk q2).2 e3]; exact h3
    | some r =>
      obtain ⟨v, e4, r1⟩ := (DR.get kk q2).1 r e3
      rw [e4]; exact r1
  · cases e
end
end PV

set_option maxHeartbeats 4000000
namespace PV
open PySem PySem.Spec L2 PyProof.Rows
/-! ### d.get(k), d.get(k, x) -/
section
variable {X : Cx} {c : Ctx} {w : Wi} {a b e2 : Expr} {f g : M Rs} {h : M P} {pos apos cpos : Pos}
theorem get1_weak : ∀ σ H Q, tE c w (get1F f g) σ H Q → tDGet1 (tE c w f) (tE c w g) σ H Q := fun σ H Q ⟨F, π, gg, s, po⟩ => by
  refine ⟨F, π, gg, s, (Po.split po).mono fun r1 π1 F1 H1 t1 s1 p1 x hx => ?_⟩
  cases e1 : rdP π1 r1 with
  | none => rw [e1] at p1; exact p1.elim
  | some q1 =>
    rw [e1] at p1
    by_cases z : isDP q1 = true
    · simp only [if_pos z] at p1
      obtain ⟨ad, rfl, hd⟩ := Rb.isD s1.le z (hx.rb s1 e1)
      refine ⟨ad, rfl, hd, F1, π1, w.mono _ _ t1.le gg, s1, (Po.split p1).mono fun r2 π2 F2 H2 t2 s2 p2 y hy => ?_⟩
      unfold op2 at p2
      cases e2 : rdP π2 r1 with
      | none => rw [e2] at p2; exact p2.elim
      | some q2 =>
        cases e3 : rdP π2 r2 with
        | none => rw [e2, e3] at p2; exact p2.elim
        | some q3 =>
          rw [e2, e3] at p2
          obtain ⟨rv, e4, k⟩ := outR_post s2 p2
          obtain ⟨a2, o, e5, e6, r, rfl, e7⟩ := get2_post s2.le ((hx.step t2).rb s2 e2) (hy.rb s2 e3) (mk_non (c := c) (H := F2)) e4
          cases e5
          refine ⟨o, e6, ?_⟩
          obtain ⟨k1, k2⟩ := k _ F2 H2 (Gr.refl s2.le) (show Rp c F2 r _ from e7)
          exact k1 _ (k2.base (t1.trans t2))
    · simp only [if_neg z] at p1; exact p1.elim
theorem get2_weak : ∀ σ H Q, tE c w (get2F f g h) σ H Q → tDGet2 (tE c w f) (tE c w g) (tV c w h) σ H Q := fun σ H Q ⟨F, π, gg, s, po⟩ => by
  refine ⟨F, π, gg, s, (Po.split po).mono fun r1 π1 F1 H1 t1 s1 p1 x hx => ?_⟩
  cases e1 : rdP π1 r1 with
  | none => rw [e1] at p1; exact p1.elim
  | some q1 =>
    rw [e1] at p1
    by_cases z : isDP q1 = true
    · simp only [if_pos z] at p1
      obtain ⟨ad, rfl, hd⟩ := Rb.isD s1.le z (hx.rb s1 e1)
      refine ⟨ad, rfl, hd, F1, π1, w.mono _ _ t1.le gg, s1, (Po.split p1).mono fun r2 π2 F2 H2 t2 s2 p2 y hy => ⟨F2, π2, w.mono _ _ (t1.trans t2).le gg, s2, (Po.split p2).mono fun zz π3 F3 H3 t3 s3 p3 u hu => ?_⟩⟩
      unfold op2 at p3
      cases e2 : rdP π3 r1 with
      | none => rw [e2] at p3; exact p3.elim
      | some q2 =>
        cases e3 : rdP π3 r2 with
        | none => rw [e2, e3] at p3; exact p3.elim
        | some q3 =>
          rw [e2, e3] at p3
          obtain ⟨rv, e4, k⟩ := outR_post s3 p3
          obtain ⟨a2, o, e5, e6, r, rfl, e7⟩ := get2_post s3.le ((hx.step (t2.trans t3)).rb s3 e2) ((hy.step t3).rb s3 e3) hu e4
          cases e5
          refine ⟨o, e6, ?_⟩
          obtain ⟨k1, k2⟩ := k _ F3 H3 (Gr.refl s3.le) (show Rp c F3 r _ from e7)
          exact k1 _ (k2.base (t1.trans (t2.trans t3)))
    · simp only [if_neg z] at p1; exact p1.elim
theorem p_get1 (hu : X.A.units + 1 < cLine) (ha : PE X a (tE c w f)) (hb : PE X b (tE c w g)) (m : M1 X a "get" apos b cpos) : PE X (.Call (.Attribute a "get" apos) [b] [] cpos) (tE c w (get1F f g)) :=
  pe_weak (pe_dget1 hu ha hb m) get1_weak
theorem p_get2 (hu : X.A.units + 1 < cLine) (ha : PE X a (tE c w f)) (hb : PE X b (tE c w g)) (he : PE X e2 (tV c w h)) (m : M2 X a "get" apos b e2 cpos) : PE X (.Call (.Attribute a "get" apos) [b, e2] [] cpos) (tE c w (get2F f g h)) :=
  pe_weak (pe_dget2 hu ha hb he m) get2_weak
/-! ### {}, {k: v}, dict(xs) -/
def dnewF : M Rs := fun π => .ok (.own (dO [])) π
theorem gr_any {F H : Hp} {p : Addr} {u : HO} (l : Le F H) (h : H p = none) : Gr F H F (L2.upd H p u) := gr_lst l h
theorem rn_dct {F H : Hp} {p : Addr} {d : Dc} {kvs : List (Key × V)} (l : Le F H) (h : H p = none) (r : DR c F d kvs) (hn : (kvs.map (·.1)).Nodup) : RN c H F (L2.upd H p (.dK kvs)) (.own (dO d)) (.ref p) :=
  ⟨p, rfl, h, l.gone h, mk_own upd_same r hn⟩
theorem p_dnew : PE X (.Dict [] [] pos) (tE c w dnewF) := pe_weak pe_dnewK fun σ H Q ⟨F, π, gg, s, po⟩ p hp => by
  have gr : Gr F H F (L2.upd H p (.dK [])) := gr_any s.le hp
  have rn : RN c H F (L2.upd H p (.dK [])) (.own (dO [])) (.ref p) := rn_dct s.le hp .nil List.nodup_nil
  exact po F _ gr.tr (gr.sr s) (.ref p) (rn.rr s gr)
/-- pairs as keys and values -/
def prsOf : List P → Option Dc
  | [] => some []
  | .tup [k, p] :: ps => match keyQ k, prsOf ps with
    | some k, some d => some ((k, p) :: d)
    | _, _ => none
  | _ => none
def dictP : List P → Option Rv
  | [.lst ps] => (prsOf ps).bind fun d => if d.length ≤ 1000000 then some (.own (dO (mergeD' [] d))) else none
  | _ => none
theorem prs_rps {K : PySem.W.Frag} (hK : c.K = K) {F H : Hp} (l : Le F H) : ∀ {ps : List P} {d : Dc} {vs : List V}, prsOf ps = some d → Rps c F ps vs →
    ∃ (as : List Addr) (kvs : List (Key × V)), vs = as.map V.ref ∧ Paired (fun p kv => SqT K H p [kV kv.1, kv.2]) as kvs ∧ DR c F d kvs
  | [], d, vs, e, r => by
    cases e
    exact ⟨[], [], by rw [rps_nil_inv r]; rfl, .nil, .nil⟩
  | p :: ps, d, vs, e, r => by
    obtain ⟨v, t, rfl, r1, r2⟩ := rps_inv r
    cases p with
    | tup xs =>
      match xs, e, r1 with
      | [k, p], e, r1 =>
        have e' : (match keyQ k, prsOf ps with | some k, some d => some ((k, p) :: d) | _, _ => none) = some d := e
        cases e1 : keyQ k with
        | none => rw [e1] at e'; cases e'
        | some kk =>
          cases e2 : prsOf ps with
          | none => rw [e1, e2] at e'; cases e'
          | some d2 =>
            rw [e1, e2] at e'
            cases e'
            obtain ⟨as, kvs, rfl, h1, h2⟩ := prs_rps hK l e2 r2
            obtain ⟨a, us, rfl, g1, g2⟩ := rp_tup r1
            obtain ⟨v1, t1, rfl, g3, g4⟩ := rps_inv g2
            obtain ⟨v2, t2, rfl, g5, g6⟩ := rps_inv g4
            have := rps_nil_inv g6
            subst this
            have hk : v1 = kV kk := by rw [keyQ_of e1] at g3; exact rp_kV.mp g3
            subst hk
            refine ⟨a :: as, (kk, v2) :: kvs, rfl, .cons (by rw [← hK]; exact l.sqT g1) h1, DR.cons rfl g5 h2⟩
    | _ => cases e
theorem v_dict : CalV c (fun xs H Q => ∃ (a : Addr) (ps : List Addr) (kvs : List (Key × V)), xs = [.ref a] ∧ SqL c.K H a (ps.map V.ref) ∧ Paired (fun p kv => SqT c.K H p [kV kv.1, kv.2]) ps kvs ∧
    ∀ p, H p = none → Q (.ref p) (upd H p (.dK (mergeK [] kvs)))) dictP := by
  intro F H ps xs res Q l h e k
  unfold dictP at e
  split at e
  · rename_i qs
    cases e1 : prsOf qs with
    | none => rw [e1] at e; cases e
    | some d =>
      rw [e1] at e
      simp only [Option.bind_some] at e
      split at e
      · cases e
        obtain ⟨v, rfl, hv⟩ := rbs1 h
        obtain ⟨a, vs, rfl, q, r⟩ := hv.lst l
        obtain ⟨as, kvs, rfl, h1, h2⟩ := prs_rps rfl l e1 r
        refine ⟨a, as, kvs, rfl, .of q, h1, fun p hp => k _ _ _ (gr_any l hp) (rn_dct l hp (DR.merge h2 .nil) (mergeK_nodup List.nodup_nil))⟩
      · cases e
  · cases e
end
/-! ### d[k] = v, d[k] += v -/
def getDc (π : En) (i : Nat) : Option Dc := match π[i]? with
  | some sl => sl.ow.bind fun o => kvP o.toP
  | none => none
def putDc (π : En) (i : Nat) (d : Dc) : En := match π[i]? with
  | some sl => π.set i (sl.put (dO d))
  | none => π
def dstR (i : Nat) (p : P) (r : Rs) : M Fl := fun π => match r with
  | .val q => (match keyQ q, getDc π i with
    | some k, some d => if d.length ≤ 1000000 then .ok .nx (putDc π i (putD' d k p)) else .bad
    | _, _ => .bad)
  | _ => .bad
def dstF (i : Nat) (fe : M P) (fk : M Rs) : M Fl := fun π => (fe π).bind fun p π1 => if (getDc π1 i).isSome then (fk π1).bind (dstR i p) else .bad
theorem SR.getDc {c : Ctx} {F H : Hp} {π : En} {σ : L2.St} {i : Nat} {d : Dc} (s : SR c F π σ H) (h : PV.getDc π i = some d) : ∃ sl o a kvs, π[i]? = some sl ∧ sl.ow = some o ∧ σ[i]? = some (some (.ref a)) ∧ H a = some (.dK kvs) ∧ DR c F d kvs ∧ (kvs.map (·.1)).Nodup := by
  unfold PV.getDc at h
  cases q : π[i]? with
  | none => rw [q] at h; cases h
  | some sl =>
    rw [q] at h
    have h0 : (sl.ow.bind fun o => kvP o.toP) = some d := h
    cases q2 : sl.ow with
    | none => rw [q2] at h0; cases h0
    | some o =>
      rw [q2] at h0
      have h' : kvP o.toP = some d := h0
      obtain ⟨a, e, _, ow⟩ := s.ow i _ o q q2
      cases o with
      | dct t ks ws =>
        cases t with
        | true => cases h'
        | false =>
          obtain ⟨kvs, q3, q4, q5⟩ := ow_dct h' ow
          exact ⟨sl, _, a, kvs, rfl, q2, e, q3, q4, q5⟩
      | lst ps => cases h'
      | obj C ps => cases h'
theorem var_getDc {π : En} {i : Nat} {d : Dc} (h : getDc π i = some d) : varF i π = .ok (.bor i) π := by
  unfold getDc at h
  unfold varF
  cases q : π[i]? with
  | none => rw [q] at h; cases h
  | some sl =>
    rw [q] at h
    cases sl with
    | own o => rfl
    | loan o => rfl
    | _ => cases h
section
variable {X : Cx} {c : Ctx} {w : Ws} {ie e : Expr} {x : Str} {xp tp pos : Pos} {i : Nat} {fe : M P} {fi fv : M Rs}
theorem s_dst (hu : X.A.units + 1 < cLine) (ho : PE X (.Name x xp) (tE c w (varF i))) (hi : PE X ie (tE c w fi)) (he : PE X e (tV c w fe)) (hs : swapsWith e (some (.Subscript (.Name x xp) ie tp)) pos.line X.env = pure false := by rfl) :
    PS X (.Assign [.Subscript (.Name x xp) ie tp] e pos) (tS c w (dstF i fe fi)) :=
  ps_weak (ps_dput hu ho hi he hs) fun D σ H ⟨F, π, gg, s, po⟩ => by
    refine ⟨F, π, gg, s, (PoS.split po).mono fun p π1 F1 H1 t1 s1 p1 v hp => ?_⟩
    cases e1 : getDc π1 i with
    | none => rw [e1] at p1; exact p1.elim
    | some d =>
      rw [e1] at p1
      refine ⟨F1, π1, w.mono _ _ t1.le gg, s1, ?_⟩
      rw [var_getDc e1]
      intro F2 H2 t2 s2 v2 hv2
      refine ⟨F2, π1, w.mono _ _ (t1.trans t2).le gg, s2, (PoS.split (PoS.from (show PoS c w.W F1 π1 σ H1 ((fi π1).bind (dstR i p)) _ from p1) t2)).mono fun r π3 F3 H3 t3 s3 p3 y hy => ?_⟩
      unfold dstR at p3
      cases r with
      | own o => exact p3.elim
      | bor j => exact p3.elim
      | val q =>
        cases e3 : keyQ q with
        | none => simp only [e3] at p3; exact p3.elim
        | some k =>
          cases e4 : getDc π3 i with
          | none => simp only [e3, e4] at p3; exact p3.elim
          | some d2 =>
            simp only [e3, e4] at p3
            by_cases hz : d2.length ≤ 1000000
            · simp only [if_pos hz] at p3
              obtain ⟨sl, o, a, kvs, q0, q1, q2, q3, q4, q5⟩ := s3.getDc e4
              have hv3 : v2 = .ref a := by
                have z : σ[i]? = some (some v2) := hv2
                rw [q2] at z
                exact (Option.some.inj (Option.some.inj z)).symm
              have hy' : y = kV k := by
                have z : Rp c F3 q y := hy
                rw [keyQ_of e3] at z
                exact rp_kV.mp z
              have rp3 : Rp c F3 p v := Rp.mono (t2.trans t3).le _ _ hp
              have pc : putDc π3 i (putD' d2 k p) = π3.set i (sl.put (dO (putD' d2 k p))) := by unfold putDc; rw [q0]
              obtain ⟨s4, t4⟩ := s3.put (u := .dK (putK kvs k v)) q0 q1 q2 (o' := dO (putD' d2 k p)) (mk_own upd_same (q4.put rp3) (putK_nodup q5))
              refine ⟨a, _, hv3, .inl ⟨kvs, k, q3, hy', by have := q4.len; have := sizeLine_eq; omega, rfl⟩, ?_⟩
              rw [pc] at p3
              exact p3 F3 σ _ t4 s4
            · simp only [if_neg hz] at p3; exact p3.elim
def daugR (i : Nat) (f : Int → Int → Int) (k : Key) (a : Int) (r : Rs) : M Fl := fun π => match r, getDc π i with
  | .val (.int b), some d => if d.length ≤ 1000000 then .ok .nx (putDc π i (putD' d k (.int (f a b)))) else .bad
  | _, _ => .bad
def daugK (i : Nat) (f : Int → Int → Int) (fv : M Rs) (r : Rs) : M Fl := fun π => match r, getDc π i with
  | .val q, some d => (match keyQ q with
    | some k => (match getD' d k with
      | some (.int a) => (fv π).bind (daugR i f k a)
      | _ => .bad)
    | none => .bad)
  | _, _ => .bad
def daugF (i : Nat) (f : Int → Int → Int) (fk fv : M Rs) : M Fl := fun π => if (getDc π i).isSome then (fk π).bind (daugK i f fv) else .bad
def rIO (f : Int → Int → Int) : V → V → Hp → VK → Prop := fun x y H Q => ∃ a b, x = .int a ∧ y = .int b ∧ Q (.int (f a b)) H
theorem s_daug {op : Operator} {f : Int → Int → Int} (hu : X.A.units + 1 < cLine) (hop : InOp X op (rIO f)) (ho : PE X (.Name x xp) (tE c w (varF i))) (hi : PE X ie (tE c w fi)) (he : PE X e (tE c w fv))
    (ha : ∀ ov iv new, augStore ie ov iv new = (do holding [new, ov, iv] (setItem ov iv new); release [new, ov, iv] []; pure .next) := by intros; rfl) :
    PS X (.AugAssign (.Subscript (.Name x xp) ie tp) op e pos) (tS c w (daugF i f fi fv)) :=
  ps_weak (ps_daug hu ho hi he hop ha) fun D σ H ⟨F, π, gg, s, po⟩ => by
    unfold daugF at po
    cases e1 : getDc π i with
    | none => simp only [e1] at po; exact po.elim
    | some d =>
      simp only [e1, Option.isSome_some, if_true] at po
      refine ⟨F, π, gg, s, ?_⟩
      rw [var_getDc e1]
      intro F2 H2 t2 s2 v2 hv2
      refine ⟨F2, π, w.mono _ _ t2.le gg, s2, (PoS.split (PoS.from po t2)).mono fun r π3 F3 H3 t3 s3 p3 y hy => ?_⟩
      unfold daugK at p3
      cases r with
      | own o => exact p3.elim
      | bor j => exact p3.elim
      | val q =>
        cases e4 : getDc π3 i with
        | none => simp only [e4] at p3; exact p3.elim
        | some d2 =>
          simp only [e4] at p3
          cases e3 : keyQ q with
          | none => simp only [e3] at p3; exact p3.elim
          | some k =>
            simp only [e3] at p3
            cases e5 : getD' d2 k with
            | none => simp only [e5] at p3; exact p3.elim
            | some pa =>
              cases pa with
              | int a =>
                simp only [e5] at p3
                obtain ⟨sl, o, ad, kvs, q0, q1, q2, q3, q4, q5⟩ := s3.getDc e4
                have hv3 : v2 = .ref ad := by
                  have z : σ[i]? = some (some v2) := hv2
                  rw [q2] at z
                  exact (Option.some.inj (Option.some.inj z)).symm
                have hy' : y = kV k := by
                  have z : Rp c F3 q y := hy
                  rw [keyQ_of e3] at z
                  exact rp_kV.mp z
                obtain ⟨va, e6, r6⟩ := (DR.get k q4).1 _ e5
                have e7 := rp_int r6
                subst e7
                refine ⟨ad, .int a, hv3, .inl ⟨kvs, k, .of q3, hy', e6.symm⟩, F3, π3, w.mono _ _ (t2.trans t3).le gg, s3, (PoS.split (PoS.from p3 .refl)).mono fun r4 π4 F4 H4 t4 s4 p4 y4 hy4 => ?_⟩
                unfold daugR at p4
                split at p4
                · rename_i b d3 e8
                  have e9 := rp_int (show Rp c F4 (.int b) y4 from hy4)
                  subst e9
                  by_cases hz : d3.length ≤ 1000000
                  · simp only [if_pos hz] at p4
                    obtain ⟨sl4, o4, ad4, kvs4, w0, w1, w2, w3, w4, w5⟩ := s4.getDc e8
                    have had : ad4 = ad := by rw [w2] at q2; exact V.ref.inj (Option.some.inj (Option.some.inj q2))
                    subst had
                    have pc : putDc π4 i (putD' d3 k (.int (f a b))) = π4.set i (sl4.put (dO (putD' d3 k (.int (f a b))))) := by unfold putDc; rw [w0]
                    obtain ⟨s5, t5⟩ := s4.put (u := .dK (putK kvs4 k (.int (f a b)))) w0 w1 w2 (o' := dO (putD' d3 k (.int (f a b)))) (mk_own upd_same (w4.put mk_int) (putK_nodup w5))
                    refine ⟨a, b, rfl, rfl, _, .inl ⟨kvs4, k, w3, hy', by have := w4.len; have := sizeLine_eq; omega, rfl⟩, ?_⟩
                    rw [pc] at p4
                    exact p4 F4 σ _ t5 s5
                  · simp only [if_neg hz] at p4; exact p4.elim
                · exact p4.elim
              | _ => simp only [e5] at p3; exact p3.elim
theorem io_add : InOp X .Add (rIO fun a b => a + b) := fun pins s σ H x y u v Q I rx ry ⟨a, b, e1, e2, q⟩ => in_add pins s σ H x y u v Q I rx ry (by subst e1 e2; exact ⟨a, b, rfl, rfl, q⟩)
end
end PV

set_option maxHeartbeats 4000000
namespace PV
open PySem PySem.Spec L2 PyProof.Rows
/-! ### list(d.items()), list(d), list(d.values()), for k, v in f().items(), isinstance(x, dict) -/
def itP (x : Key × P) : P := .tup [keyP x.1, x.2]
def rItemsR : V → Hp → VK → Prop := fun x H Q => ∃ (d : Addr) (kvs : List (Key × V)), x = .ref d ∧ Rd H d (.dK kvs) ∧
  ∀ (H' : Hp) (p : Addr) (ts : List Addr), (∀ b o, H b = some o → H' b = some o) → H p = none → (∀ t ∈ ts, H t = none) → p ∉ ts → H' p = some (.lst (ts.map V.ref)) → Paired (fun (t : Addr) (q : Key × V) => H' t = some (.tup [kV q.1, q.2])) ts kvs → Q (.ref p) H'
def tU (r : V → Hp → VK → Prop) (te : TE) : TE := fun σ H Q => te σ H fun x H1 => r x H1 Q
def rListR : List V → Hp → VK → Prop := fun xs H Q => ∃ p kvs, xs = [.ref p] ∧ Rd H p (.dK kvs) ∧ ∀ q, H q = none → Q (.ref q) (upd H q (.lst (kvs.map fun kv => kV kv.1)))
def rValsR : V → Hp → VK → Prop := fun x H Q => ∃ d kvs, x = .ref d ∧ Rd H d (.dK kvs) ∧ ∀ q, H q = none → Q (.ref q) (upd H q (.lst (kvs.map fun kv => kv.2)))
section
variable {X : Cx} {e : Expr} {te : TE} {p apos cpos pos : Pos}
theorem pe_listItemsR (hc : X.calm = true) (he : PE X e te) (hg : Gl X "list") (hm : X.mg "list" = none) (hv : bootBuiltins "list" = some (.type "list")) (hbase : attributeBase e "items" X.env (eval e X.env) = eval e X.env := by rfl) (hline : (apos.endLine == cpos.line) = true := by rfl)
    (hs : starEach [.Call (.Attribute e "items" apos) [] [] cpos] X.env = (false, eval (.Call (.Attribute e "items" apos) [] [] cpos) X.env) :: starEach [] X.env := by rfl) :
    PE X (.Call (.Name "list" p) [.Call (.Attribute e "items" apos) [] [] cpos] [] pos) (tU rItemsR te) := by
  refine ⟨fun pins s σ H Q I hq => ?_⟩
  refine wpAny_Call_Name_kw (ld_blt I hg hm hv (PyProof.Rows.callWith_type1 ?_ hs rfl))
  rw [hs]
  show wpAny _ _ (spliced ((false, eval (.Call (.Attribute e "items" apos) [] [] cpos) X.env) :: backTo pos (starEach [] X.env))) _ _ s
  refine Calls.spliced_cons (wpAny_Call_method (T := "dict") (id := "dict.items") hbase rfl hline F.plainAttrs_dict F.slot_dict_items F.type_dict_items (thn (he.run pins s σ H _ I hq) fun u s1 ⟨x, H1, I1, rx, d, kvs, ex, hd, q⟩ => ?_))
  subst ex
  obtain rfl : u = Value.ref d := rx
  obtain ⟨hz, lo, vs, kv, hdo⟩ := (show ObjOk X.prog X.w H1 s1.heap d (.dK kvs) from hd.ok I1.hok)
  obtain ⟨ep, hat⟩ := hdo.dictAt
  have lk : kvs.length = vs.length := Paired.length kv
  have I2 : Inv X pins σ H1 { s1 with heap := s1.heap.push { cls := .type "dict_items", data := .fields #[.ref d] } } := I1.kept (t' := s1.toks) fun b ob q => Heap.get?_push_of_some _ q
  refine ⟨hdo.typeIs, hdo.mapOf.noDict, ?_⟩
  show wpAny _ _ (callWith cpos (.builtin "dict.items") [.ref d] [] []) _ X.xe s1
  refine method_meetsIn F.slot_dict_items F.entry_dict_items rfl (PySem.evalArgs_none ⟨rfl, hdo.typeIs, F.args_dict_items_1 _, _, meets_dict_items (mixKind X.prog X.w) d lo, ⟨vs, hdo⟩, Calls.spliced_nil ?_⟩)
  refine PySem.W.kdx_call (knd := mixKind X.prog X.w) (kvs := vs) (ep := ep) (I1.ok.hd hc) ⟨_, Heap.get?_push_size _ rfl, rfl, rfl⟩ (hat.push _) (by omega) fun h' tk acc c as hk hS hl hG hacc => ?_
  obtain ⟨H', k1, k2, k3, k4, k5, k6, J⟩ := LiI.items_laid (tk := tk) I2 hz kv hk hS hl hG hacc
  exact ⟨.ref _, H', J, rfl, q H' _ as k1 k2 k3 k4 k5 k6⟩
theorem call_listR (hc : X.calm = true) : CallR X (.type "list") rListR := by
  intro pins s σ H xs us Q I r h
  obtain ⟨p, kvs, rfl, hk, q⟩ := h
  rw [Vals.ref1 r]
  obtain ⟨z, lo, vs, rk, hd⟩ := (show ObjOk X.prog X.w H s.heap p (.dK kvs) from hk.ok I.hok)
  obtain ⟨ep, hat⟩ := hd.dictAt
  have hl : kvs.length = vs.length := Paired.length rk
  refine PySem.W.kdl_call (PySem.W.kdl_dict (knd := mixKind X.prog X.w) (kvs := vs) (ep := ep) lo) (I.ok.hd hc) hat (by omega) fun h' tk acc c hkeep hS hacc => ?_
  refine ⟨.ref s.heap.objs.size, _, I.laid (t' := tk) hkeep (Nat.le_refl _) (show ObjOk X.prog X.w _ _ _ (.lst (kvs.map fun kv => kV kv.1)) from ⟨by rw [List.length_map]; exact z, acc.toList, c, ?_, by rw [Array.toArray_toList]; exact hS⟩), rfl, q _ (I.hok.fresh (Nat.le_refl _))⟩
  refine vals_of_at (by rw [List.length_map, show acc.toList.length = vs.length by rw [Array.length_toList]; exact hacc.1]; exact hl) fun j x w h1 h2 => ?_
  obtain ⟨k, y, hky, hi⟩ := hacc.2 j w (by rw [← Array.getElem?_toList]; exact h2)
  have e1 : (kvs.map (·.1))[j]? = some k := by
    rw [KV.keys rk, List.getElem?_map, hky]; rfl
  have e2 : (kvs.map fun kv => kV kv.1)[j]? = some (kV k) := by
    rw [show (kvs.map fun kv => kV kv.1) = (kvs.map (·.1)).map kV by rw [List.map_map]; rfl, List.getElem?_map, e1]; rfl
  rw [e2] at h1
  cases h1
  exact keyIs_rel hi
theorem pe_listValsR (hc : X.calm = true) (he : PE X e te) (hg : Gl X "list") (hm : X.mg "list" = none) (hv : bootBuiltins "list" = some (.type "list")) (hbase : attributeBase e "values" X.env (eval e X.env) = eval e X.env := by rfl) (hline : (apos.endLine == cpos.line) = true := by rfl)
    (hs : starEach [.Call (.Attribute e "values" apos) [] [] cpos] X.env = (false, eval (.Call (.Attribute e "values" apos) [] [] cpos) X.env) :: starEach [] X.env := by rfl) :
    PE X (.Call (.Name "list" p) [.Call (.Attribute e "values" apos) [] [] cpos] [] pos) (tU rValsR te) := by
  refine ⟨fun pins s σ H Q I hq => ?_⟩
  refine wpAny_Call_Name_kw (ld_blt I hg hm hv (PyProof.Rows.callWith_type1 ?_ hs rfl))
  rw [hs]
  show wpAny _ _ (spliced ((false, eval (.Call (.Attribute e "values" apos) [] [] cpos) X.env) :: backTo pos (starEach [] X.env))) _ _ s
  refine Calls.spliced_cons (wpAny_Call_method (T := "dict") (id := "dict.values") hbase rfl hline F.plainAttrs_dict F.slot_dict_values F.type_dict_values (thn (he.run pins s σ H _ I hq) fun u s1 ⟨x, H1, I1, rx, d, kvs, ex, hd, q⟩ => ?_))
  subst ex
  obtain rfl : u = Value.ref d := rx
  obtain ⟨hz, lo, vs, kv, hdo⟩ := (show ObjOk X.prog X.w H1 s1.heap d (.dK kvs) from hd.ok I1.hok)
  obtain ⟨ep, hat⟩ := hdo.dictAt
  have lk : kvs.length = vs.length := Paired.length kv
  have I2 : Inv X pins σ H1 { s1 with heap := s1.heap.push { cls := .type "dict_values", data := .fields #[.ref d] } } := I1.kept (t' := s1.toks) fun b ob q => Heap.get?_push_of_some _ q
  refine ⟨hdo.typeIs, hdo.mapOf.noDict, ?_⟩
  show wpAny _ _ (callWith cpos (.builtin "dict.values") [.ref d] [] []) _ X.xe s1
  refine method_meetsIn F.slot_dict_values F.entry_dict_values rfl (PySem.evalArgs_none ⟨rfl, hdo.typeIs, F.args_dict_values_1 _, _, meets_dict_values (mixKind X.prog X.w) d lo, ⟨vs, hdo⟩, Calls.spliced_nil ?_⟩)
  refine PySem.W.kdl_call (PySem.W.kdl_values (knd := mixKind X.prog X.w) (kvs := vs) (ep := ep) (r := s1.heap.objs.size) (d := d)) (I1.ok.hd hc) ⟨⟨_, Heap.get?_push_size _ rfl, rfl, rfl⟩, hat.push _⟩ (by omega) fun h' tk acc c hkeep hS hacc => ?_
  refine ⟨.ref _, _, I2.laid (t' := tk) hkeep (Nat.le_refl _) (show ObjOk X.prog X.w _ _ _ (.lst (kvs.map fun kv => kv.2)) from ⟨by rw [List.length_map]; exact hz, acc.toList, c, ?_, by rw [Array.toArray_toList]; exact hS⟩), rfl, q _ (I2.hok.fresh (Nat.le_refl _))⟩
  refine vals_of_at (by rw [List.length_map, show acc.toList.length = vs.length by rw [Array.length_toList]; exact hacc.1]; exact lk) fun j x w h1 h2 => ?_
  obtain ⟨k, hky⟩ := hacc.2 j w (by rw [← Array.getElem?_toList]; exact h2)
  rw [List.getElem?_map, Option.map_eq_some_iff] at h1
  obtain ⟨⟨k2, y⟩, h3, rfl⟩ := h1
  obtain ⟨u, h4, h5⟩ := kv_get kv h3
  rw [hky] at h4
  cases h4
  exact h5
end
/-! what they give -/
def itemsP (p : P) : Option Rv := (kvP p).bind fun d => if d.length ≤ 1000000 then some (.own (.lst (d.map itP))) else none
def valsP (p : P) : Option Rv := (kvP p).map fun d => .own (.lst (dcV d))
def listDP : List P → Option Rv
  | [p] => (kvP p).map fun d => .own (.lst (dcK d))
  | _ => none
def isiDP : List P → Option Rv
  | [p, .ty "dict"] => if isDP p = true then some (.val (.bl true)) else none
  | _ => none
section
variable {X : Cx} {c : Ctx} {w : Wi} {e : Expr} {f : M Rs} {r : V → Hp → VK → Prop} {o : P → Option Rv} {p apos cpos pos : Pos}
theorem un_weakU (hv : UnV c r o) : ∀ σ H Q, tE c w (unF o f) σ H Q → tU r (tE c w f) σ H Q := fun σ H Q ⟨F, π, gg, s, po⟩ => by
  refine ⟨F, π, gg, s, (Po.split po).mono fun r1 π1 F1 H1 t1 s1 p1 x hx => ?_⟩
  unfold op1 at p1
  cases e1 : rdP π1 r1 with
  | none => rw [e1] at p1; exact p1.elim
  | some q1 =>
    rw [e1] at p1
    obtain ⟨rv, e3, k⟩ := outR_post s1 p1
    refine hv F1 H1 q1 x rv Q s1.le (hx.rb s1 e1) e3 fun v F3 H3 gr rn => ?_
    obtain ⟨k1, k2⟩ := k v F3 H3 gr rn
    exact k1 v (k2.base t1)
theorem putT_le {F H : Hp} (l : Le F H) : ∀ (as : List Addr) (kvs : List (Key × V)), (∀ t ∈ as, F t = none) → Le F (LiI.putT F as kvs) := fun as kvs h b u e => by
  left
  rw [LiI.putT_off as kvs F (fun z => by rw [h b z] at e; cases e)]
  exact e
theorem items_rps {F G : Hp} : ∀ {d : Dc} {kvs : List (Key × V)} {ts : List Addr}, DR c F d kvs → Le F G → Paired (fun (t : Addr) (q : Key × V) => G t = some (.tup [kV q.1, q.2])) ts kvs → Rps c G (d.map itP) (ts.map V.ref)
  | [], kvs, ts, h, l, q => by
    rw [h.ninv] at q
    cases q
    exact rps_nil
  | x :: d, kvs, ts, h, l, q => by
    obtain ⟨y, r, rfl, e1, e2, e3⟩ := h.inv
    cases q with
    | cons q1 q2 =>
      rw [List.map_cons, List.map_cons]
      refine rps_cons (mk_tup q1 (rps_cons (rp_kV.mpr (by rw [e1])) (rps_cons (Rp.mono l _ _ e2) rps_nil))) (items_rps e3 l q2)
theorem paired_mono {α β : Type} {R S : α → β → Prop} (h : ∀ a b, R a b → S a b) : ∀ {xs : List α} {ys : List β}, Paired R xs ys → Paired S xs ys
  | _, _, .nil => .nil
  | _, _, .cons a t => .cons (h _ _ a) (paired_mono h t)
theorem paired_nodup {F : Hp} {ts : List Addr} {kvs : List (Key × V)} {H' : Hp} (h : Paired (fun (t : Addr) (q : Key × V) => H' t = some (.tup [kV q.1, q.2])) ts kvs) (b : Addr) (hb : b ∈ ts) : ∃ q, H' b = some (.tup q) := by
  obtain ⟨j, y, e1, e2, e3⟩ := LiI.paired_ix h hb
  exact ⟨_, e3⟩
/-- the new tuples alone, over F -/
def addT (F H' : Hp) (ts : List Addr) : Hp := fun b => if b ∈ ts then H' b else F b
theorem v_items : UnV c rItemsR itemsP := by
  intro F H p x res Q l h1 e k
  unfold itemsP at e
  cases e1 : kvP p with
  | none => rw [e1] at e; cases e
  | some d =>
    rw [e1] at e
    simp only [Option.bind_some] at e
    split at e
    · cases e
      obtain ⟨a, kvs, rfl, q1, q2, q3⟩ := h1.dct l e1
      refine ⟨a, kvs, rfl, q1, fun H' q ts k1 k2 k3 k4 k5 k6 => ?_⟩
      have lF : Le F (addT F H' ts) := fun b u e => by
        left
        unfold addT
        rw [if_neg (fun z => by have := l.gone (k3 b z); rw [this] at e; cases e)]
        exact e
      have lH : Le (addT F H' ts) H' := fun b u e => by
        unfold addT at e
        split at e
        · exact .inl e
        · rcases l b u e with z | ⟨z, ob, y⟩
          · exact .inl (k1 _ _ z)
          · exact .inr ⟨z, ob, k1 _ _ y⟩
      have gr : Gr F H (addT F H' ts) H' := ⟨lF, lH, k1, fun b hb => by
        unfold addT at hb
        split at hb
        · rename_i z; exact .inr (k3 b z)
        · exact .inl hb⟩
      have pG : Paired (fun (t : Addr) (q : Key × V) => addT F H' ts t = some (.tup [kV q.1, q.2])) ts kvs := by
        have : ∀ {us : List Addr} {ks : List (Key × V)}, (∀ t ∈ us, t ∈ ts) → Paired (fun (t : Addr) (q : Key × V) => H' t = some (.tup [kV q.1, q.2])) us ks → Paired (fun (t : Addr) (q : Key × V) => addT F H' ts t = some (.tup [kV q.1, q.2])) us ks := by
          intro us ks hm hp
          induction hp with
          | nil => exact .nil
          | cons a t ih => exact .cons (by unfold addT; rw [if_pos (hm _ List.mem_cons_self)]; exact a) (ih fun t ht => hm t (List.mem_cons_of_mem _ ht))
        exact this (fun t h => h) k6
      refine k _ _ _ gr ⟨q, rfl, k2, ?_, _, k5, items_rps q2 lF pG⟩
      unfold addT
      rw [if_neg k4]
      exact l.gone k2
    · cases e
theorem v_vals : UnV c rValsR valsP := by
  intro F H p x res Q l h1 e k
  unfold valsP at e
  cases e1 : kvP p with
  | none => rw [e1] at e; cases e
  | some d =>
    rw [e1] at e
    cases e
    obtain ⟨a, kvs, rfl, q1, q2, q3⟩ := h1.dct l e1
    exact ⟨a, kvs, rfl, q1, fun q hq => k _ _ _ (gr_lst l hq) (rn_lst l hq q2.2)⟩
theorem v_listD : CalV c rListR listDP := by
  intro F H ps xs res Q l h e k
  unfold listDP at e
  split at e
  · rename_i p
    cases e1 : kvP p with
    | none => rw [e1] at e; cases e
    | some d =>
      rw [e1] at e
      cases e
      obtain ⟨v, rfl, hv⟩ := rbs1 h
      obtain ⟨a, kvs, rfl, q1, q2, q3⟩ := hv.dct l e1
      refine ⟨a, kvs, rfl, q1, fun q hq => k _ _ _ (gr_lst l hq) (rn_lst l hq ?_)⟩
      have e2 : dcK d = (kvs.map (·.1)).map keyP := by unfold dcK; rw [← q2.1, List.map_map]; rfl
      rw [e2, show (kvs.map fun kv => kV kv.1) = (kvs.map (·.1)).map kV by rw [List.map_map]; rfl]
      exact rps_kV _
  · cases e
theorem kit_dict : kitB "dict" "dict" = some true := by decide +kernel
theorem v_isiD : CalV c (rIsi c.K) isiDP := by
  intro F H ps xs res Q l h e k
  unfold isiDP at e
  split at e
  · rename_i p
    split at e
    · rename_i hd
      cases e
      obtain ⟨v, w, rfl, h1, h2⟩ := rbs2 h
      cases e1 : kvP p with
      | none => unfold isDP at hd; rw [e1] at hd; cases hd
      | some d =>
        obtain ⟨a, kvs, rfl, q1, q2, q3⟩ := h1.dct l e1
        have hw : w = .ty "dict" := by
          rcases h2 with z | ⟨_, o, _, _, z⟩
          · exact rp_ty z
          · cases o <;> cases z
        subst hw
        refine ⟨.ref a, .ty "dict", .type "dict", .type "dict", true, rfl, .ty _, ?_, kit_ty kit_dict, give l k mk_bl⟩
        rcases q1 with z | ⟨o, z⟩
        · exact .base (.dK z)
        · exact .fDict z
    · cases e
  · cases e
theorem p_items (hc : X.calm = true) (he : PE X e (tE c w f)) (hg : Gl X "list") (hm : X.mg "list" = none) (hb : bootBuiltins "list" = some (.type "list")) (hbase : attributeBase e "items" X.env (eval e X.env) = eval e X.env := by rfl) (hline : (apos.endLine == cpos.line) = true := by rfl)
    (hs : starEach [.Call (.Attribute e "items" apos) [] [] cpos] X.env = (false, eval (.Call (.Attribute e "items" apos) [] [] cpos) X.env) :: starEach [] X.env := by rfl) :
    PE X (.Call (.Name "list" p) [.Call (.Attribute e "items" apos) [] [] cpos] [] pos) (tE c w (unF itemsP f)) := pe_weak (pe_listItemsR hc he hg hm hb hbase hline hs) (un_weakU v_items)
theorem p_vals (hc : X.calm = true) (he : PE X e (tE c w f)) (hg : Gl X "list") (hm : X.mg "list" = none) (hb : bootBuiltins "list" = some (.type "list")) (hbase : attributeBase e "values" X.env (eval e X.env) = eval e X.env := by rfl) (hline : (apos.endLine == cpos.line) = true := by rfl)
    (hs : starEach [.Call (.Attribute e "values" apos) [] [] cpos] X.env = (false, eval (.Call (.Attribute e "values" apos) [] [] cpos) X.env) :: starEach [] X.env := by rfl) :
    PE X (.Call (.Name "list" p) [.Call (.Attribute e "values" apos) [] [] cpos] [] pos) (tE c w (unF valsP f)) := pe_weak (pe_listValsR hc he hg hm hb hbase hline hs) (un_weakU v_vals)
/-! for k, v in f(..).items() -/
def tLk (te : TE) : TE := fun σ H Q => te σ H fun x H1 => ∃ d kvs, x = .ref d ∧ H1 d = some (.dK kvs) ∧ ∀ o, Q x (upd H1 d (.frz o (.dK kvs)))
theorem pe_lk {te : TE} (he : PE X e te) : PE X e (tLk te) := by
  refine ⟨fun pins s σ H Q I h => thn (he.run pins s σ H _ I h) fun u s1 ⟨x, H1, I1, rx, d, kvs, ex, hd, q⟩ => ?_⟩
  obtain ⟨o, I2⟩ := I1.lock hd True.intro
  exact ⟨x, _, I2, rx, q o⟩
def itmR (r : Rs) : M (List P) := fun π => match r with
  | .own o => (match kvP o.toP with
    | some d => if d.length ≤ 1000000 then .ok (d.map itP) π else .bad
    | none => .bad)
  | _ => .bad
def itmF (f : M Rs) : M (List P) := fun π => (f π).bind itmR
theorem wk_items {F : Hp} {d : Dc} {kvs : List (Key × V)} {a : Addr} {o : Obj} (h : F a = some (.frz o (.dK kvs))) (r : DR c F d kvs) : Wk c F (Iti a o kvs) (d.map itP) where
  go := fun i G l hi => by
    refine ⟨?_, by rw [List.length_map, r.len] at hi; exact hi⟩
    rcases l a _ h with z | ⟨⟨k, z | ⟨k, z⟩⟩, _⟩
    · exact z
    · cases z
    · cases z
  stop := fun G l => by
    refine ⟨?_, by rw [List.length_map, r.len]; exact Nat.le_refl _⟩
    rcases l a _ h with z | ⟨⟨k, z | ⟨k, z⟩⟩, _⟩
    · exact z
    · cases z
    · cases z
  yld := fun i p F1 G x G' l l1 hp hy => by
    obtain ⟨T, k, v, e1, rfl, e2, rfl⟩ := hy
    rw [List.getElem?_map, Option.map_eq_some_iff] at hp
    obtain ⟨⟨k', p'⟩, e3, rfl⟩ := hp
    have ek : k' = k := by
      have h1 : (d.map (·.1))[i]? = some k' := by rw [List.getElem?_map, e3]; rfl
      rw [r.1, List.getElem?_map, e1] at h1
      exact (Option.some.inj h1).symm
    subst ek
    have rv : Rp c F p' v := by
      obtain ⟨v', h3, h4⟩ := rps_get (i := i) (p := p') r.2 (by unfold dcV; rw [List.getElem?_map, e3]; rfl)
      rw [List.getElem?_map, e1] at h3
      cases h3
      exact h4
    exact ⟨_, gr_tup l1 e2, mk_tup upd_same (rps_cons (rp_kV.mpr rfl) (rps_cons (Rp.mono (l.trans (Le.new _ (l1.gone e2))) _ _ rv) rps_nil))⟩
theorem i_items {elts : List Expr} {kk : Nat} {tpos : Pos} (he : PE X e (tE c w f)) (hbase : attributeBase e "items" X.env (eval e X.env) = eval e X.env := by rfl) (hline : (apos.endLine == cpos.line) = true := by rfl) :
    PI X (.Tuple elts kk tpos) (.Call (.Attribute e "items" apos) [] [] cpos) (tI c w (itmF f)) :=
  pi_weak (pi_items (pe_lk he) hbase hline) fun σ H R ⟨F, π, gg, s, po⟩ => by
    refine ⟨F, π, gg, s, ?_⟩
    unfold itmF at po
    cases e0 : f π with
    | bad => rw [e0] at po; exact po
    | exc C qs π1 => rw [e0] at po; exact po
    | ok r1 π1 =>
      rw [e0] at po
      intro F1 H1 t1 s1 x hx
      have p1 : Po c w.W F π σ H (itmR r1 π1) _ := po
      unfold itmR at p1
      cases r1 with
      | val p => exact p1.elim
      | bor i => exact p1.elim
      | own o =>
        cases e1 : kvP o.toP with
        | none => simp only [e1] at p1; exact p1.elim
        | some d =>
          simp only [e1] at p1
          split at p1
          · rename_i hz
            obtain ⟨a, rfl, q1, q2, q3, q4⟩ := hx
            have hk : ∃ kvs, H1 a = some (.dK kvs) ∧ DR c F1 d kvs := by
              cases o with
              | dct t ks ws =>
                cases t with
                | true => cases e1
                | false =>
                  obtain ⟨kvs, z1, z2, _⟩ := ow_dct e1 q3
                  exact ⟨kvs, z1, z2⟩
              | lst ps => cases e1
              | obj C ps => cases e1
            obtain ⟨kvs, h1, h2⟩ := hk
            refine ⟨a, kvs, rfl, h1, fun ob => ⟨a, ob, kvs, rfl, upd_same, ?_⟩⟩
            have l2 : Le F1 (upd F1 a (.frz ob (.dK kvs))) := Le.new _ q1
            have sr : SR c (upd F1 a (.frz ob (.dK kvs))) π1 σ (upd H1 a (.frz ob (.dK kvs))) := by
              refine ⟨s1.le.upd _ _, s1.len, fun i p h => ?_, fun i sl o h ho => ?_, s1.dj⟩
              · obtain ⟨v, e2, e3⟩ := s1.vl i p h
                exact ⟨v, e2, Rp.mono l2 _ _ e3⟩
              · obtain ⟨b, e2, e3, e4⟩ := s1.ow i sl o h ho
                have hb : b ≠ a := fun z => q2 (z ▸ ⟨i, sl, o, h, ho, e2⟩)
                exact ⟨b, e2, by rw [upd_ne hb]; exact e3, e4.step l2 fun u q => by rw [upd_ne hb]; exact q⟩
            have tr : Tr F π σ H (upd F1 a (.frz ob (.dK kvs))) π1 σ (upd H1 a (.frz ob (.dK kvs))) := by
              refine ⟨t1.le.trans l2, fun b u h n => ?_, fun b h => ?_, t1.own, t1.ln⟩
              · have hb : b ≠ a := fun z => by
                  subst z
                  rcases q4 with y | y
                  · rw [h] at y; cases y
                  · exact n y
                rw [upd_ne hb]
                exact t1.keep b u h n
              · by_cases hb : b = a
                · subst hb; exact .inr q4
                · rw [upd_ne hb] at h; exact t1.new b h
            exact p1 _ _ tr sr (Iti a ob kvs) (wk_items upd_same (h2.mono l2)) (by rw [List.length_map]; have := sizeLine_eq; omega)
          · exact p1.elim
end
end PV

set_option maxHeartbeats 4000000
namespace PV
open PySem PySem.Spec L2 PyProof.Rows
/-! ### xs[i], ys[j] = e; short forms for dicts -/
theorem hu1 {k : Nat} {A : Around} (r : Room k A) : A.units + 1 < cLine := by have := r.un; omega
theorem bb_dict : bootBuiltins "dict" = some (.type "dict") := by decide +kernel
def st2F (i j : Nat) (fe : M P) (f1 f2 : M Rs) : M Fl := fun π => (fe π).bind fun p π1 => match p with
  | .tup [p1, p2] => if (getL π1 i).isSome then ((f1 π1).bind (stR i p1)).bind fun fl π2 => (match fl with
    | .nx => if (getL π2 j).isSome then (f2 π2).bind (stR j p2) else .bad
    | _ => .bad) else .bad
  | _ => .bad
section
variable {X : Cx} {c : Ctx} {w : Ws} {e ie je : Expr} {x y : Str} {xp yp tp tq tpos pos : Pos} {i j k : Nat} {fe : M P} {f1 f2 : M Rs}
/-- one store, as a target -/
theorem st_post {F H : Hp} {π : En} {σ : L2.St} {p : P} {v : V} {fi : M Rs} {Q : L2.St → Hp → Prop} {F0 : Hp} {π0 : En} {H0 : Hp} (gg : w.g F) (s : SR c F π σ H) (t : Tr F0 π0 σ H0 F π σ H) (hp : Rp c F p v) (hg : (getL π i).isSome = true) {W : WX} {J : Fl → En → Hp → L2.St → Hp → Prop}
    (po : PoS c w.W F0 π0 σ H0 ((fi π).bind (stR i p)) J) (hJ : ∀ π2 F2 H2, Tr F0 π0 σ H0 F2 π2 σ H2 → SR c F2 π2 σ H2 → Le F F2 → J .nx π2 F2 σ H2 → Q σ H2) :
    gSub (tE c w (varF i)) (tE c w fi) rSetL v σ H Q := by
  cases e1 : getL π i with
  | none => rw [e1] at hg; cases hg
  | some xs =>
    obtain ⟨sl, h1, h2⟩ := getL_at e1
    refine ⟨F, π, gg, s, ?_⟩
    have hvar : varF i π = .ok (.bor i) π := by
      unfold varF
      rw [h1]
      cases sl with
      | own o => rfl
      | loan o => rfl
      | _ => cases h2
    rw [hvar]
    intro F2 H2 t2 s2 v2 hv2
    refine ⟨F2, π, w.mono _ _ t2.le gg, s2, ?_⟩
    have po2 := PoS.from po (t.trans t2)
    refine (PoS.split po2).mono fun r π3 F3 H3 t3 s3 p3 y hy => ?_
    unfold stR at p3
    cases r with
    | own o => exact p3.elim
    | bor j => exact p3.elim
    | val q =>
      cases q with
      | int k =>
        cases e3 : getL π3 i with
        | none => simp only [e3] at p3; exact p3.elim
        | some ys =>
          cases e4 : ixN ys.length k with
          | none => simp only [e3, e4] at p3; exact p3.elim
          | some jj =>
            simp only [e3, e4] at p3
            obtain ⟨a, vs, q1, q2, q3⟩ := s3.getL e3
            have hv3 : v2 = .ref a := by
              have z : σ[i]? = some (some v2) := hv2
              rw [q1] at z
              exact (Option.some.inj (Option.some.inj z)).symm
            obtain ⟨s4, t4⟩ := s3.putL e3 q1 (rps_set jj q3 (Rp.mono (t2.trans t3).le _ _ hp))
            refine ⟨a, vs, k, jj, hv3, rp_int (show Rp c F3 (.int k) y from hy), q2, by rw [← rps_len q3]; exact e4, ?_⟩
            exact hJ _ F3 _ ((t.trans t2).trans (t3.trans t4)) s4 (t2.trans t3).le (p3 F3 σ _ t4 s4)
      | _ => exact p3.elim
theorem s_st2 (hc : X.calm = true) (hK : X.K = c.K) (ho : PE X (.Name x xp) (tE c w (varF i))) (hi : PE X ie (tE c w f1)) (ho2 : PE X (.Name y yp) (tE c w (varF j))) (hi2 : PE X je (tE c w f2)) (he : PE X e (tV c w fe))
    (ha : ∀ v, assign (.Subscript (.Name x xp) ie tp) X.env v = (do
      let ov ← holding [v] (eval (.Name x xp) X.env)
      let iv ← holding [v, ov] (eval ie X.env)
      standAt tp
      holding [v, ov, iv] (setItem ov iv v)
      release [v, ov, iv] []) := by intro _; rfl)
    (ha2 : ∀ v, assign (.Subscript (.Name y yp) je tq) X.env v = (do
      let ov ← holding [v] (eval (.Name y yp) X.env)
      let iv ← holding [v, ov] (eval je X.env)
      standAt tq
      holding [v, ov, iv] (setItem ov iv v)
      release [v, ov, iv] []) := by intro _; rfl)
    (hs : swapsWithSole [.Tuple [.Subscript (.Name x xp) ie tp, .Subscript (.Name y yp) je tq] k tpos] e pos.line X.env = pure false := by rfl) (hw : swappedStores [.Tuple [.Subscript (.Name x xp) ie tp, .Subscript (.Name y yp) je tq] k tpos] e X.env = pure none := by rfl)
    (h1 : (assignEach [.Tuple [.Subscript (.Name x xp) ie tp, .Subscript (.Name y yp) je tq] k tpos] X.env).map (·.2) = [assign (.Tuple [.Subscript (.Name x xp) ie tp, .Subscript (.Name y yp) je tq] k tpos) X.env] := by rfl)
    (hs2 : (assignEach [.Subscript (.Name x xp) ie tp, .Subscript (.Name y yp) je tq] X.env).map (·.2) = assign (.Subscript (.Name x xp) ie tp) X.env :: (assignEach [.Subscript (.Name y yp) je tq] X.env).map (·.2) := by rfl)
    (hs3 : (assignEach [.Subscript (.Name y yp) je tq] X.env).map (·.2) = assign (.Subscript (.Name y yp) je tq) X.env :: (assignEach [] X.env).map (·.2) := by rfl)
    (hn : (assignEach [.Subscript (.Name x xp) ie tp, .Subscript (.Name y yp) je tq] X.env).length = 2 := by rfl) (hst : (assignEach [.Subscript (.Name x xp) ie tp, .Subscript (.Name y yp) je tq] X.env).findIdx? (·.1) = none := by rfl) :
    PS X (.Assign [.Tuple [.Subscript (.Name x xp) ie tp, .Subscript (.Name y yp) je tq] k tpos] e pos) (tS c w (st2F i j fe f1 f2)) :=
  ps_weak (ps_asg he (pg_tup (n := 2) hc (pgs_cons (pg_sub ho hi set_list ha) (pgs_cons (pg_sub ho2 hi2 set_list ha2) pgs_nil hs3) hs2) hn hst) hs hw h1) fun D σ H ⟨F, π, gg, s, po⟩ => by
    refine ⟨F, π, gg, s, (PoS.split po).mono fun p π1 F1 H1 t1 s1 p1 v hp => ?_⟩
    split at p1
    · rename_i q1 q2
      obtain ⟨a, vs, rfl, h3, h4⟩ := rp_tup hp
      obtain ⟨v1, r1, rfl, h5, h6⟩ := rps_inv h4
      obtain ⟨v2, r2, rfl, h7, h8⟩ := rps_inv h6
      have := rps_nil_inv h8
      subst this
      refine ⟨a, [v1, v2], rfl, by rw [hK]; exact s1.le.sqT h3, rfl, v1, [v2], rfl, ?_⟩
      by_cases g1 : (getL π1 i).isSome = true
      case neg => simp only [if_neg g1] at p1; exact p1.elim
      simp only [if_pos g1] at p1
      refine st_post (w.mono _ _ t1.le gg) s1 .refl h5 g1 (W := w.W) (PoS.splitS p1) fun π2 F2 H2 t2 s2 l2 p2 => ?_
      simp only [] at p2
      by_cases g2 : (getL π2 j).isSome = true
      case neg => simp only [if_neg g2] at p2; exact p2.elim
      simp only [if_pos g2] at p2
      refine ⟨v2, [], rfl, st_post (w.mono _ _ (t1.trans t2).le gg) s2 .refl (Rp.mono l2 _ _ h7) g2 (W := w.W) p2 fun π3 F3 H3 t3 s3 l3 p3 => ?_⟩
      exact ⟨rfl, p3⟩
    · exact p1.elim
end
end PV

set_option maxHeartbeats 4000000
/-! list(zip(a, b)) of two tuples -/
namespace ZL
open PySem PySem.W PySem.Spec PyProof.Rows
theorem zip_no_len : typeLookup (.type "zip") "__len__" = pure none := by rw [typeLookup_type, builtinLookup_eq_fast]; kernel_rfl
theorem zip_no_hint : typeLookup (.type "zip") "__length_hint__" = pure none := by rw [typeLookup_type, builtinLookup_eq_fast]; kernel_rfl
section
variable {prog : Program} {w : World} {A : Around} {E : Value → Shared → Prop} {s : Shared} {z TI TO T i1 i2 l1 l2 : Addr} {xs ys : Array Value}
theorem held_item {f : Bool} {oT : Obj} {k1 k2 : Nat} {x y : Value} {Q : Value → Shared → Prop} (D : ZipApart z TI TO i1 i2 l1 l2)
    (hz : IsZipHeld s.heap z TI TO T f) (hT : s.heap.get? T = some oT) (hTI : IsPair s.heap TI (.ref i1) (.ref i2))
    (h1 : s.heap.IsTupleIter i1 l1 k1) (h2 : s.heap.IsTupleIter i2 l2 k2) (hl1 : s.heap.IsTuple l1 xs) (hl2 : s.heap.IsTuple l2 ys) (hx : xs[k1]? = some x) (hy : ys[k2]? = some y)
    (hQ : ∀ h', IsZipHeld h' z TI TO T true → h'.IsTupleIter i1 l1 (k1 + 1) → h'.IsTupleIter i2 l2 (k2 + 1) → IsPair h' s.heap.objs.size x y → h'.objs.size = s.heap.objs.size + 1 →
      (∀ c o, c ≠ z → c ≠ i1 → c ≠ i2 → s.heap.get? c = some o → h'.get? c = some o) → Q (.ref s.heap.objs.size) { s with heap := h' }) :
    wpAny (model prog w) A (Builtin.«zip.__next__» ⟨[.ref z], []⟩) (fun fin s' => ∃ v, fin = .done (.ret v) ∧ Q v s') E s := by
  show wpAny _ _ (field (.ref z) 2 >>= _) _ _ _
  refine wpAny_bind (wpAny_field hz rfl (x := .bool false) rfl ?_)
  show wpAny _ _ (field (.ref z) 3 >>= _) _ _ _
  refine wpAny_bind (wpAny_field hz rfl (x := .ref TI) rfl ?_)
  refine wpAny_bind (wpAny_seqItems hTI rfl ?_)
  show wpAny _ _ (Builtin.SmallTypes.ownedTupleIsFree (.ref z) >>= _) _ _ _
  refine wpAny_bind (wpAny_tupleHeld_zip hz hT fun h₁ hz₁ hs₁ => ?_)
  simp only [Bool.false_eq_true, if_false]
  refine wpAny_bind ?_
  rw [← Array.forIn_toList]
  simp only [List.forIn_cons, List.forIn_nil]
  refine wpAny_bind (wpAny_bind (wpAny_holding ?_))
  show wpAny _ _ (Builtin.SmallTypes.nextOf (.ref i1) >>= _) _ _ _
  refine wpAny_bind (RZ.nextOf_tuple_item (s := { s with heap := h₁ }) (h1.extBut hs₁.extBut D.i1z) (hl1.extBut hs₁.extBut D.l1z) hx fun h₂ h1₂ hs₂ => wpAny_pure ?_)
  refine wpAny_pure ?_
  refine wpAny_bind (wpAny_bind (wpAny_holding ?_))
  show wpAny _ _ (Builtin.SmallTypes.nextOf (.ref i2) >>= _) _ _ _
  refine wpAny_bind (RZ.nextOf_tuple_item (s := { s with heap := h₂ }) ((h2.extBut hs₁.extBut D.i2z).extBut hs₂.extBut D.i12.symm) ((hl2.extBut hs₁.extBut D.l2z).extBut hs₂.extBut D.l2i1) hy fun h₃ h2₃ hs₃ => wpAny_pure ?_)
  refine wpAny_pure (wpAny_pure ?_)
  show wpAny _ _ (newTuple [x, y] >>= _) _ _ _
  refine wpAny_bind (wpAny_newTuple ?_)
  have hsz : h₃.objs.size = s.heap.objs.size := by rw [hs₃.1, hs₂.1, hs₁.1]
  have hz₃ : IsZipHeld h₃ z TI TO T true := hs₃.extBut _ _ D.i2z.symm (hs₂.extBut _ _ D.i1z.symm hz₁)
  have hk : ∀ c o, c ≠ z → c ≠ i1 → c ≠ i2 → s.heap.get? c = some o → h₃.get? c = some o := fun c o c1 c2 c3 e => hs₃.extBut _ _ c3 (hs₂.extBut _ _ c2 (hs₁.extBut _ _ c1 e))
  have h1₃ : h₃.IsTupleIter i1 l1 (k1 + 1) := h1₂.extBut hs₃.extBut D.i12
  refine wpAny_pure ⟨_, rfl, ?_⟩
  show Q (.ref h₃.objs.size) _
  have hp : IsPair (h₃.push { cls := .type "tuple", data := .seq #[x, y] }) h₃.objs.size x y := Heap.get?_push_size _ rfl
  have hz4 : (h₃.push { cls := .type "tuple", data := .seq #[x, y] }).objs.size = h₃.objs.size + 1 := Heap.size_push ..
  rw [hsz] at hp hz4 ⊢
  exact hQ _ (Heap.get?_push_of_some _ hz₃) (h1₃.at fun o e => Heap.get?_push_of_some _ e) (h2₃.at fun o e => Heap.get?_push_of_some _ e) hp hz4 fun c o c1 c2 c3 e => Heap.get?_push_of_some _ (hk c o c1 c2 c3 e)
theorem held_end {f : Bool} {oT : Obj} {k1 k2 : Nat} {Q : Fin → Shared → Prop} (hh : A.handled = none) (D : ZipApart z TI TO i1 i2 l1 l2)
    (hz : IsZipHeld s.heap z TI TO T f) (hT : s.heap.get? T = some oT) (hTI : IsPair s.heap TI (.ref i1) (.ref i2))
    (h1 : s.heap.IsTupleIter i1 l1 k1) (h2 : s.heap.IsTupleIter i2 l2 k2) (hl1 : s.heap.IsTuple l1 xs) (hl2 : s.heap.IsTuple l2 ys) (hend : xs[k1]? = none ∨ ys[k2]? = none)
    (hE : ∀ h' e, (∀ c o, c ≠ z → c ≠ i1 → c ≠ i2 → s.heap.get? c = some o → h'.get? c = some o) → (∃ o, h'.get? e = some o ∧ o.cls = .type "StopIteration") → E (.ref e) { s with heap := h' }) :
    wpAny (model prog w) A (Builtin.«zip.__next__» ⟨[.ref z], []⟩) Q E s := by
  show wpAny _ _ (field (.ref z) 2 >>= _) _ _ _
  refine wpAny_bind (wpAny_field hz rfl (x := .bool false) rfl ?_)
  show wpAny _ _ (field (.ref z) 3 >>= _) _ _ _
  refine wpAny_bind (wpAny_field hz rfl (x := .ref TI) rfl ?_)
  refine wpAny_bind (wpAny_seqItems hTI rfl ?_)
  show wpAny _ _ (Builtin.SmallTypes.ownedTupleIsFree (.ref z) >>= _) _ _ _
  refine wpAny_bind (wpAny_tupleHeld_zip hz hT fun h₁ hz₁ hs₁ => ?_)
  simp only [Bool.false_eq_true, if_false]
  refine wpAny_bind ?_
  rw [← Array.forIn_toList]
  simp only [List.forIn_cons, List.forIn_nil]
  refine wpAny_bind (wpAny_bind (wpAny_holding ?_))
  show wpAny _ _ (Builtin.SmallTypes.nextOf (.ref i1) >>= _) _ _ _
  cases hx : xs[k1]? with
  | none =>
    refine wpAny_bind (RZ.nextOf_tuple_end (s := { s with heap := h₁ }) hh (h1.extBut hs₁.extBut D.i1z) (hl1.extBut hs₁.extBut D.l1z) hx fun h₂ e hs₂ he => ?_)
    exact hE h₂ e (fun c o c1 c2 _ x => hs₂ _ _ c2 (hs₁.extBut _ _ c1 x)) he
  | some x =>
    have hy : ys[k2]? = none := by rcases hend with h | h; rw [hx] at h; cases h; exact h
    refine wpAny_bind (RZ.nextOf_tuple_item (s := { s with heap := h₁ }) (h1.extBut hs₁.extBut D.i1z) (hl1.extBut hs₁.extBut D.l1z) hx fun h₂ h1₂ hs₂ => wpAny_pure ?_)
    refine wpAny_pure ?_
    refine wpAny_bind (wpAny_bind (wpAny_holding ?_))
    show wpAny _ _ (Builtin.SmallTypes.nextOf (.ref i2) >>= _) _ _ _
    refine wpAny_bind (RZ.nextOf_tuple_end (s := { s with heap := h₂ }) hh ((h2.extBut hs₁.extBut D.i2z).extBut hs₂.extBut D.i12.symm) ((hl2.extBut hs₁.extBut D.l2z).extBut hs₂.extBut D.l2i1) hy fun h₃ e hs₃ he => ?_)
    exact hE h₃ e (fun c o c1 c2 c3 x => hs₃ _ _ c3 (hs₂.extBut _ _ c2 (hs₁.extBut _ _ c1 x))) he
theorem next_held {f : Bool} {oT : Obj} {k1 k2 : Nat} {x y : Value} {Q : Option Value → Shared → Prop} (D : ZipApart z TI TO i1 i2 l1 l2)
    (hz : IsZipHeld s.heap z TI TO T f) (hT : s.heap.get? T = some oT) (hTI : IsPair s.heap TI (.ref i1) (.ref i2))
    (h1 : s.heap.IsTupleIter i1 l1 k1) (h2 : s.heap.IsTupleIter i2 l2 k2) (hl1 : s.heap.IsTuple l1 xs) (hl2 : s.heap.IsTuple l2 ys) (hx : xs[k1]? = some x) (hy : ys[k2]? = some y)
    (hQ : ∀ h', IsZipHeld h' z TI TO T true → h'.IsTupleIter i1 l1 (k1 + 1) → h'.IsTupleIter i2 l2 (k2 + 1) → IsPair h' s.heap.objs.size x y → h'.objs.size = s.heap.objs.size + 1 →
      (∀ c o, c ≠ z → c ≠ i1 → c ≠ i2 → s.heap.get? c = some o → h'.get? c = some o) → Q (some (.ref s.heap.objs.size)) { s with heap := h' }) :
    wpAny (model prog w) A (pyNext (.ref z)) Q E s := by
  have hTy : s.TypeIs (.ref z) "zip" := ⟨_, hz, rfl⟩
  unfold pyNext
  exact wpAny_bind (wpAny_attempt (wpAny_callSpecial?_slot (name := Str.ofString "__next__") hTy F.slot_zip_next
    (wpAny_call_entry F.slot_zip_next hTy F.entry_zip_next
      (held_item D hz hT hTI h1 h2 hl1 hl2 hx hy fun h' a1 a3 a4 a5 a6 a7 => wpAny_pure (hQ h' a1 a3 a4 a5 a6 a7)) (F.args_zip_next_1 _))))
theorem fin_held {f : Bool} {oT : Obj} {k1 k2 : Nat} {Q : Option Value → Shared → Prop} (hh : A.handled = none) (D : ZipApart z TI TO i1 i2 l1 l2)
    (hz : IsZipHeld s.heap z TI TO T f) (hT : s.heap.get? T = some oT) (hTI : IsPair s.heap TI (.ref i1) (.ref i2))
    (h1 : s.heap.IsTupleIter i1 l1 k1) (h2 : s.heap.IsTupleIter i2 l2 k2) (hl1 : s.heap.IsTuple l1 xs) (hl2 : s.heap.IsTuple l2 ys) (hend : xs[k1]? = none ∨ ys[k2]? = none)
    (hQ : ∀ h', (∀ c o, c ≠ z → c ≠ i1 → c ≠ i2 → s.heap.get? c = some o → h'.get? c = some o) → Q none { s with heap := h' }) : wpAny (model prog w) A (pyNext (.ref z)) Q E s := by
  have hTy : s.TypeIs (.ref z) "zip" := ⟨_, hz, rfl⟩
  unfold pyNext
  refine wpAny_bind (wpAny_attempt (wpAny_callSpecial?_slot (name := Str.ofString "__next__") hTy F.slot_zip_next
    (wpAny_call_entry F.slot_zip_next hTy F.entry_zip_next (held_end hh D hz hT hTI h1 h2 hl1 hl2 hend fun h' e hk he => ?_) (F.args_zip_next_1 _))))
  obtain ⟨o, ho, hc⟩ := he
  refine wpAny_bind (wpAny_isInstance (T := "StopIteration") (b := true) ⟨o, ho, hc⟩ isSubtype_stop ?_)
  exact wpAny_pure (hQ _ hk)
/-- a zip that has given i pairs; those are kept -/
def St (h : Heap) (z TI TO i1 i2 l1 l2 : Addr) (i : Nat) : Prop := h.IsTupleIter i1 l1 i ∧ h.IsTupleIter i2 l2 i ∧ IsPair h TI (.ref i1) (.ref i2) ∧
  ((IsZip h z TI TO .none ∧ ∃ a b, IsPair h TO a b) ∨ ∃ T f oT, IsZipHeld h z TI TO T f ∧ h.get? T = some oT ∧ T ≠ z ∧ T ≠ i1 ∧ T ≠ i2)
theorem nxt {i : Nat} {x y : Value} {Q : Option Value → Shared → Prop} (D : ZipApart z TI TO i1 i2 l1 l2) (st : St s.heap z TI TO i1 i2 l1 l2 i) (hl1 : s.heap.IsTuple l1 xs) (hl2 : s.heap.IsTuple l2 ys) (hx : xs[i]? = some x) (hy : ys[i]? = some y)
    (hQ : ∀ h', St h' z TI TO i1 i2 l1 l2 (i + 1) → IsPair h' s.heap.objs.size x y → h'.objs.size = s.heap.objs.size + 1 → (∀ c o, c ≠ z → c ≠ TO → c ≠ i1 → c ≠ i2 → s.heap.get? c = some o → h'.get? c = some o) → Q (some (.ref s.heap.objs.size)) { s with heap := h' }) :
    wpAny (model prog w) A (pyNext (.ref z)) Q E s := by
  obtain ⟨h1, h2, hTI, hz⟩ := st
  have low : ∀ b o, s.heap.get? b = some o → s.heap.objs.size ≠ b := fun b o e => Nat.ne_of_gt (Heap.lt_size e)
  obtain ⟨o1, e1, _⟩ := id h1
  obtain ⟨o2, e2, _⟩ := id h2
  rcases hz with ⟨hz, a, b, hTO⟩ | ⟨T, f, oT, hz, hT, t1, t2, t3⟩
  · exact RZ.pyNext_zipT_item D hz hTI hTO h1 h2 hl1 hl2 hx hy fun h' a1 a2 a3 a4 a5 a6 a7 => hQ h' ⟨a3, a4, a7 _ _ D.TIz D.TITO D.TIi1 D.TIi2 hTI, .inr ⟨_, false, _, a1, a5, low _ _ hz, low _ _ e1, low _ _ e2⟩⟩ a5 a6 a7
  · exact next_held D hz hT hTI h1 h2 hl1 hl2 hx hy fun h' a1 a3 a4 a5 a6 a7 => hQ h' ⟨a3, a4, a7 _ _ D.TIz D.TIi1 D.TIi2 hTI, .inr ⟨T, true, oT, a1, a7 _ _ t1 t2 t3 hT, t1, t2, t3⟩⟩ a5 a6 fun c o c1 _ c3 c4 e => a7 c o c1 c3 c4 e
theorem fin {i : Nat} {Q : Option Value → Shared → Prop} (hh : A.handled = none) (D : ZipApart z TI TO i1 i2 l1 l2) (st : St s.heap z TI TO i1 i2 l1 l2 i) (hl1 : s.heap.IsTuple l1 xs) (hl2 : s.heap.IsTuple l2 ys) (hend : xs[i]? = none ∨ ys[i]? = none)
    (hQ : ∀ h', (∀ c o, c ≠ z → c ≠ TO → c ≠ i1 → c ≠ i2 → s.heap.get? c = some o → h'.get? c = some o) → Q none { s with heap := h' }) : wpAny (model prog w) A (pyNext (.ref z)) Q E s := by
  obtain ⟨h1, h2, hTI, hz⟩ := st
  rcases hz with ⟨hz, a, b, hTO⟩ | ⟨T, f, oT, hz, hT, t1, t2, t3⟩
  · exact RZ.pyNext_zipT_end hh D hz hTI hTO h1 h2 hl1 hl2 hend hQ
  · exact fin_held hh D hz hT hTI h1 h2 hl1 hl2 hend fun h' k => hQ h' fun c o c1 _ c3 c4 e => k c o c1 c3 c4 e
end
end ZL

set_option maxHeartbeats 4000000
namespace ZL
open PySem PySem.W PySem.Spec PyProof.Rows
/-- S lies apart from the zip -/
def Ap (S z TI TO i1 i2 l1 l2 : Addr) : Prop := z < S ∧ TI < S ∧ TO < S ∧ i1 < S ∧ i2 < S ∧ l1 < S ∧ l2 < S
/-- the pairs made so far -/
structure Mad (xs ys : Array Value) (lo : Addr) (h : Heap) (as : List Addr) : Prop where
  rise : as.Pairwise (· < ·)
  above : ∀ a ∈ as, lo < a
  pairs : ∀ (j : Nat) (a : Addr), as[j]? = some a → ∃ x y, xs[j]? = some x ∧ ys[j]? = some y ∧ h.get? a = some { cls := .type "tuple", data := .seq #[x, y] }
/-- as St, and the held tuple is not S -/
def St2 (h : Heap) (S z TI TO i1 i2 l1 l2 : Addr) (i : Nat) : Prop := h.IsTupleIter i1 l1 i ∧ h.IsTupleIter i2 l2 i ∧ IsPair h TI (.ref i1) (.ref i2) ∧
  ((IsZip h z TI TO .none ∧ ∃ a b, IsPair h TO a b) ∨ ∃ T f oT, IsZipHeld h z TI TO T f ∧ h.get? T = some oT ∧ T ≠ z ∧ T ≠ i1 ∧ T ≠ i2 ∧ T ≠ S)
section
variable {prog : Program} {w : World} {A : Around} {E : Value → Shared → Prop} {s : Shared} {R : Result → Shared → Prop} {S z TI TO i1 i2 l1 l2 : Addr} {xs ys : Array Value}
theorem St2.st {h : Heap} {i : Nat} (x : St2 h S z TI TO i1 i2 l1 l2 i) : St h z TI TO i1 i2 l1 l2 i := by
  obtain ⟨h1, h2, h3, h4⟩ := x
  refine ⟨h1, h2, h3, ?_⟩
  rcases h4 with h4 | ⟨T, f, oT, a1, a2, a3, a4, a5, a6⟩
  · exact .inl h4
  · exact .inr ⟨T, f, oT, a1, a2, a3, a4, a5⟩
theorem St2.keep {h h' : Heap} {i : Nat} (x : St2 h S z TI TO i1 i2 l1 l2 i) (ap : Ap S z TI TO i1 i2 l1 l2) (k : ∀ b o, b ≠ S → h.get? b = some o → h'.get? b = some o) : St2 h' S z TI TO i1 i2 l1 l2 i := by
  obtain ⟨h1, h2, h3, h4⟩ := x
  obtain ⟨p1, p2, p3, p4, p5, p6, p7⟩ := ap
  refine ⟨h1.at fun o e => k _ o (Nat.ne_of_lt p4) e, h2.at fun o e => k _ o (Nat.ne_of_lt p5) e, k _ _ (Nat.ne_of_lt p2) h3, ?_⟩
  rcases h4 with ⟨a1, a, b, a2⟩ | ⟨T, f, oT, a1, a2, a3, a4, a5, a6⟩
  · exact .inl ⟨k _ _ (Nat.ne_of_lt p1) a1, a, b, k _ _ (Nat.ne_of_lt p3) a2⟩
  · exact .inr ⟨T, f, oT, k _ _ (Nat.ne_of_lt p1) a1, k _ _ a6 a2, a3, a4, a5, a6⟩
theorem nxt2 {i : Nat} {x y : Value} {Q : Option Value → Shared → Prop} (D : ZipApart z TI TO i1 i2 l1 l2) (st : St2 s.heap S z TI TO i1 i2 l1 l2 i) (hSl : S < s.heap.objs.size) (hl1 : s.heap.IsTuple l1 xs) (hl2 : s.heap.IsTuple l2 ys) (hx : xs[i]? = some x) (hy : ys[i]? = some y)
    (hQ : ∀ h', St2 h' S z TI TO i1 i2 l1 l2 (i + 1) → IsPair h' s.heap.objs.size x y → h'.objs.size = s.heap.objs.size + 1 → (∀ c o, c ≠ z → c ≠ TO → c ≠ i1 → c ≠ i2 → s.heap.get? c = some o → h'.get? c = some o) → Q (some (.ref s.heap.objs.size)) { s with heap := h' }) :
    wpAny (model prog w) A (pyNext (.ref z)) Q E s := by
  obtain ⟨h1, h2, hTI, hz⟩ := st
  have low : ∀ b o, s.heap.get? b = some o → s.heap.objs.size ≠ b := fun b o e => Nat.ne_of_gt (Heap.lt_size e)
  obtain ⟨o1, e1, _⟩ := id h1
  obtain ⟨o2, e2, _⟩ := id h2
  rcases hz with ⟨hz, a, b, hTO⟩ | ⟨T, f, oT, hz, hT, t1, t2, t3, t4⟩
  · exact RZ.pyNext_zipT_item D hz hTI hTO h1 h2 hl1 hl2 hx hy fun h' a1 a2 a3 a4 a5 a6 a7 => hQ h' ⟨a3, a4, a7 _ _ D.TIz D.TITO D.TIi1 D.TIi2 hTI, .inr ⟨_, false, _, a1, a5, low _ _ hz, low _ _ e1, low _ _ e2, Nat.ne_of_gt hSl⟩⟩ a5 a6 a7
  · exact next_held D hz hT hTI h1 h2 hl1 hl2 hx hy fun h' a1 a3 a4 a5 a6 a7 => hQ h' ⟨a3, a4, a7 _ _ D.TIz D.TIi1 D.TIi2 hTI, .inr ⟨T, true, oT, a1, a7 _ _ t1 t2 t3 hT, t1, t2, t3, t4⟩⟩ a5 a6 fun c o c1 _ c3 c4 e => a7 c o c1 c3 c4 e
theorem loopZ (hh : A.handled = none) (D : ZipApart z TI TO i1 i2 l1 l2) (ap : Ap S z TI TO i1 i2 l1 l2) (n : Nat) (hn : n ≤ sizeLine) (hxy : ∀ i, i < n → ∃ x y, xs[i]? = some x ∧ ys[i]? = some y) (hend : xs[n]? = none ∨ ys[n]? = none) (res : Value) {h₁ : Heap}
    (hR : ∀ h' tk acc c as, (∀ b o, b ≠ S → b ≠ z → b ≠ TO → b ≠ i1 → b ≠ i2 → h₁.get? b = some o → h'.get? b = some o) → h'.get? S = some { cls := .type "list", dict := none, data := .seq acc c, slots := #[] } → as.length = n → Mad xs ys S h' as →
      acc.toList = as.map Value.ref → R (.ok (.ret res)) { s with heap := h', toks := tk }) :
    ∀ (k i : Nat) (h : Heap) (tk c : Nat) (acc : Array Value) (as : List Addr), n - i = k → i ≤ n → St2 h S z TI TO i1 i2 l1 l2 i → h.IsTuple l1 xs → h.IsTuple l2 ys → (∀ b o, b ≠ S → b ≠ z → b ≠ TO → b ≠ i1 → b ≠ i2 → h₁.get? b = some o → h.get? b = some o) →
      h.get? S = some { cls := .type "list", dict := none, data := .seq acc c, slots := #[] } → acc.toList = as.map Value.ref → as.length = i → Mad xs ys S h as →
      codeAny (model prog w) A (.builtin "list.extend.loop" ⟨[.ref S, .ref z, res], []⟩) R { s with heap := h, toks := tk } := by
  obtain ⟨p1, p2, p3, p4, p5, p6, p7⟩ := id ap
  intro k
  induction k with
  | zero =>
    intro i h tk c acc as hk hi hst hl1 hl2 hkeep hS hacc hal hG
    have hin : i = n := by omega
    subst hin
    refine codeAny_builtin PySem.F.entry_extend_loop ?_
    rw [Around.under_plainId PySem.F.plain_extend_loop _]
    show wpAny _ A.in1 (pyNext (.ref z) >>= _) _ _ _
    refine wpAny_bind (fin (s := { s with heap := h, toks := tk }) (A := A.in1) hh D hst.st hl1 hl2 hend fun h' he => ?_)
    refine wpAny_pure (hR h' tk acc c as (fun b o h1 h2 h3 h4 h5 e => he b o h2 h3 h4 h5 (hkeep b o h1 h2 h3 h4 h5 e)) (he S _ (Nat.ne_of_gt p1) (Nat.ne_of_gt p3) (Nat.ne_of_gt p4) (Nat.ne_of_gt p5) hS) hal ⟨hG.rise, hG.above, fun j a hj => ?_⟩ hacc)
    obtain ⟨x, y, e1, e2, e3⟩ := hG.pairs j a hj
    have hb := hG.above a (List.mem_of_getElem? hj)
    exact ⟨x, y, e1, e2, he a _ (Nat.ne_of_gt (Nat.lt_trans p1 hb)) (Nat.ne_of_gt (Nat.lt_trans p3 hb)) (Nat.ne_of_gt (Nat.lt_trans p4 hb)) (Nat.ne_of_gt (Nat.lt_trans p5 hb)) e3⟩
  | succ k ih =>
    intro i h tk c acc as hk hi hst hl1 hl2 hkeep hS hacc hal hG
    have hlt : i < n := by omega
    have hsz : acc.size = i := by rw [← Array.length_toList, hacc, List.length_map, hal]
    obtain ⟨x, y, hx, hy⟩ := hxy i hlt
    refine codeAny_builtin PySem.F.entry_extend_loop ?_
    rw [Around.under_plainId PySem.F.plain_extend_loop _]
    show wpAny _ A.in1 (pyNext (.ref z) >>= _) _ _ _
    refine wpAny_bind (nxt2 (s := { s with heap := h, toks := tk }) (S := S) D hst (Heap.lt_size hS) hl1 hl2 hx hy fun h' hst' ht hz hkp => ?_)
    dsimp only at ht hz hkp ⊢
    have hS' := hkp S _ (Nat.ne_of_gt p1) (Nat.ne_of_gt p3) (Nat.ne_of_gt p4) (Nat.ne_of_gt p5) hS
    have up : ∀ b o, b ≠ S → h'.get? b = some o → (h'.update S (Obj.mapSeq (·.push (Value.ref h.objs.size)))).get? b = some o := fun b o hb e => (Heap.get?_update_other _ _ (Ne.symm hb)).trans e
    have hSl : S < h.objs.size := Heap.lt_size hS
    have kl1 : (h'.update S (Obj.mapSeq (·.push (Value.ref h.objs.size)))).IsTuple l1 xs := hl1.at fun o e => up _ o (Nat.ne_of_lt p6) (hkp _ o D.l1z D.l1TO D.l1i1 D.l1i2 e)
    have kl2 : (h'.update S (Obj.mapSeq (·.push (Value.ref h.objs.size)))).IsTuple l2 ys := hl2.at fun o e => up _ o (Nat.ne_of_lt p7) (hkp _ o D.l2z D.l2TO D.l2i1 D.l2i2 e)
    show wpAny _ A.in1 (updateSeq S (·.push (Value.ref h.objs.size)) >>= _) _ _ _
    refine wpAny_bind ?_
    refine wpAny_updateSeq hS' rfl (wpAny_pure ⟨plainId_quiet PySem.F.plain_extend_loop _, ih (i + 1) _ tk _ (acc.push (Value.ref h.objs.size)) (as ++ [h.objs.size]) (by omega) hlt (hst'.keep ap up) kl1 kl2
      (fun b o h1 h2 h3 h4 h5 e => up b o h1 (hkp b o h2 h3 h4 h5 (hkeep b o h1 h2 h3 h4 h5 e))) (Heap.get?_update_self _ hS' rfl) (by rw [Array.toList_push, hacc, List.map_append]; rfl) (by rw [List.length_append, hal]; rfl) ⟨?_, ?_, ?_⟩⟩) (by rw [hsz]; omega) (by show (acc.push (Value.ref h.objs.size)).size ≤ sizeLine + 1; rw [Array.size_push, hsz]; omega)
    · refine List.pairwise_append.mpr ⟨hG.rise, List.pairwise_singleton _ _, fun a ha b hb => ?_⟩
      rw [List.mem_singleton.mp hb]
      obtain ⟨j, hj⟩ := List.mem_iff_getElem?.mp ha
      obtain ⟨_, _, _, _, e⟩ := hG.pairs j a hj
      exact Heap.lt_size e
    · intro a ha
      rcases List.mem_append.mp ha with ha | ha
      · exact hG.above a ha
      · rw [List.mem_singleton.mp ha]; exact hSl
    · intro j b hj
      rcases Nat.lt_trichotomy j as.length with h1 | h1 | h1
      · rw [List.getElem?_append_left h1] at hj
        obtain ⟨x', y', e1, e2, e3⟩ := hG.pairs j b hj
        have hb := hG.above b (List.mem_of_getElem? hj)
        exact ⟨x', y', e1, e2, up b _ (Nat.ne_of_gt hb) (hkp b _ (Nat.ne_of_gt (Nat.lt_trans p1 hb)) (Nat.ne_of_gt (Nat.lt_trans p3 hb)) (Nat.ne_of_gt (Nat.lt_trans p4 hb)) (Nat.ne_of_gt (Nat.lt_trans p5 hb)) e3)⟩
      · subst h1
        have hb : h.objs.size = b := by simpa using hj
        subst hb
        exact ⟨x, y, by rw [hal]; exact hx, by rw [hal]; exact hy, up _ _ (Nat.ne_of_gt hSl) ht⟩
      · have hnone : (as ++ [h.objs.size])[j]? = none := List.getElem?_eq_none (by rw [List.length_append, List.length_singleton]; omega)
        rw [hnone] at hj; cases hj
theorem extZ (hh : A.handled = none) (D : ZipApart z TI TO i1 i2 l1 l2) (ap : Ap S z TI TO i1 i2 l1 l2) (n : Nat) (hn : n ≤ sizeLine) (hxy : ∀ i, i < n → ∃ x y, xs[i]? = some x ∧ ys[i]? = some y) (hend : xs[n]? = none ∨ ys[n]? = none) (res : Value) (c₀ : Nat)
    (hst : St2 s.heap S z TI TO i1 i2 l1 l2 0) (hl1 : s.heap.IsTuple l1 xs) (hl2 : s.heap.IsTuple l2 ys) (hz : IsZip s.heap z TI TO .none) (hS : s.heap.get? S = some { cls := .type "list", data := .seq #[] c₀ })
    (hR : ∀ h' tk acc c as, (∀ b o, b ≠ S → b ≠ z → b ≠ TO → b ≠ i1 → b ≠ i2 → s.heap.get? b = some o → h'.get? b = some o) → h'.get? S = some { cls := .type "list", dict := none, data := .seq acc c, slots := #[] } → as.length = n → Mad xs ys S h' as →
      acc.toList = as.map Value.ref → R (.ok (.ret res)) { s with heap := h', toks := tk }) :
    wpAny (model prog w) A.in1 (Builtin.List.listExtendWith (.ref S) (.ref z) res)
      (fun fin s' => match fin with | .done f => R (.ok f) s' | .again c' => c'.quiet = true ∧ codeAny (model prog w) A c' R s') (fun e s' => R (.error e) s') s := by
  obtain ⟨p1, p2, p3, p4, p5, p6, p7⟩ := id ap
  have hTy : s.TypeIs (.ref z) "zip" := ⟨_, hz, rfl⟩
  unfold Builtin.List.listExtendWith
  refine wpAny_bind (wpAny_typeOf hTy ?_)
  have h1 : Builtin.List.listSameRef (.ref S) (.ref z) = false := by simp [Builtin.List.listSameRef, Nat.ne_of_gt p1]
  have h2 : (Value.type "zip" == Value.type "list") = false := by decide
  have h3 : (Value.type "zip" == Value.type "tuple") = false := by decide
  simp only [h1, h2, h3, Bool.or_false, Bool.false_eq_true, if_false]
  refine wpAny_bind (wpAny_pyIter_zip hz ?_)
  refine wpAny_bind (wpAny_holding ?_)
  unfold Builtin.List.listLengthHint
  refine wpAny_bind (wpAny_specialOf hTy zip_no_len ?_)
  show wpAny _ A.in1 (specialOf (Value.ref z) (Str.ofString "__length_hint__") >>= _) _ _ _
  refine wpAny_bind (wpAny_specialOf hTy zip_no_hint ?_)
  refine wpAny_pure ?_
  show wpAny _ A.in1 (rule "list.extend.makes-room" >>= fun _ => Builtin.List.listTouch (.ref S) >>= fun _ =>
    again (.builtin "list.extend.loop" ⟨[.ref S, .ref z, res], []⟩)) _ _ _
  refine wpAny_bind (wpAny_rule ?_)
  refine wpAny_bind ?_
  show wpAny _ A.in1 (updateSeq S (·.push .none) >>= fun _ => updateSeq S (·.pop)) _ _ _
  refine wpAny_bind (wpAny_updateSeq hS rfl ?_)
  have hS₂ := Heap.get?_update_self (Obj.mapSeq (·.push Value.none)) hS rfl
  refine wpAny_updateSeq (hz := by seq_fits) hS₂ rfl ?_
  have hS₃ := Heap.get?_update_self (Obj.mapSeq (·.pop)) hS₂ rfl
  have oth : ∀ b o, b ≠ S → s.heap.get? b = some o → ((s.heap.update S (Obj.mapSeq (·.push Value.none))).update S (Obj.mapSeq (·.pop))).get? b = some o :=
    fun b o hb e => (Heap.get?_update_other _ _ (Ne.symm hb)).trans ((Heap.get?_update_other _ _ (Ne.symm hb)).trans e)
  exact wpAny_pure ⟨plainId_quiet PySem.F.plain_extend_loop _, loopZ (s := s) (h₁ := s.heap) hh D ap n hn hxy hend res hR n 0 _ _ _ #[] [] (Nat.sub_zero _) (Nat.zero_le _) (hst.keep ap oth) (hl1.at fun o e => oth _ o (Nat.ne_of_lt p6) e) (hl2.at fun o e => oth _ o (Nat.ne_of_lt p7) e)
    (fun b o hb _ _ _ _ e => oth b o hb e) hS₃ rfl rfl ⟨List.Pairwise.nil, (fun _ ha => nomatch ha), (fun j a hj => by simp at hj)⟩⟩
theorem initZ (hh : A.handled = none) (D : ZipApart z TI TO i1 i2 l1 l2) (ap : Ap S z TI TO i1 i2 l1 l2) (n : Nat) (hn : n ≤ sizeLine) (hxy : ∀ i, i < n → ∃ x y, xs[i]? = some x ∧ ys[i]? = some y) (hend : xs[n]? = none ∨ ys[n]? = none)
    (hst : St2 s.heap S z TI TO i1 i2 l1 l2 0) (hl1 : s.heap.IsTuple l1 xs) (hl2 : s.heap.IsTuple l2 ys) (hz : IsZip s.heap z TI TO .none) (hS : s.heap.get? S = some { cls := .type "list", data := .seq #[] })
    (hR : ∀ h' tk acc c as, (∀ b o, b ≠ S → b ≠ z → b ≠ TO → b ≠ i1 → b ≠ i2 → s.heap.get? b = some o → h'.get? b = some o) → h'.get? S = some { cls := .type "list", dict := none, data := .seq acc c, slots := #[] } → as.length = n → Mad xs ys S h' as →
      acc.toList = as.map Value.ref → R (.ok (.ret .none)) { s with heap := h', toks := tk }) :
    wpAny (model prog w) A.in1 (Builtin.«list.__init__» ⟨[.ref S, .ref z], []⟩)
      (fun fin s' => match fin with | .done f => R (.ok f) s' | .again c' => c'.quiet = true ∧ codeAny (model prog w) A c' R s') (fun e s' => R (.error e) s') s := by
  obtain ⟨p1, p2, p3, p4, p5, p6, p7⟩ := id ap
  show wpAny _ _ (do let old ← Builtin.List.listItems (.ref S); Builtin.List.listUpdate (.ref S) (fun _ => #[]); letGo old.toList.reverse; Builtin.List.listExtendWith (.ref S) (.ref z) .none) _ _ s
  refine wpAny_bind ?_
  unfold Builtin.List.listItems
  refine wpAny_bind (wpAny_seqItems hS rfl (wpAny_pure ?_))
  show wpAny _ _ (updateSeq S (fun _ => #[]) >>= fun _ => letGo (#[] : Array Value).toList.reverse >>= fun _ => Builtin.List.listExtendWith (.ref S) (.ref z) .none) _ _ s
  refine wpAny_bind (wpAny_updateSeq hS rfl ?_)
  have hS₂ := Heap.get?_update_self (Obj.mapSeq (fun _ => (#[] : Array Value))) hS rfl
  have oth : ∀ b o, b ≠ S → s.heap.get? b = some o → (s.heap.update S (Obj.mapSeq (fun _ => (#[] : Array Value)))).get? b = some o :=
    fun b o hb e => (Heap.get?_update_other _ _ (Ne.symm hb)).trans e
  refine wpAny_bind (wpAny_letGo ?_)
  refine extZ hh D ap n hn hxy hend .none _ (hst.keep ap oth) (hl1.at fun o e => oth _ o (Nat.ne_of_lt p6) e) (hl2.at fun o e => oth _ o (Nat.ne_of_lt p7) e) (oth _ _ (Nat.ne_of_lt p1) hz) hS₂ fun h' tk acc c as hk hS' hl hG hacc => ?_
  exact hR h' tk acc c as (fun b o h1 h2 h3 h4 h5 e => hk b o h1 h2 h3 h4 h5 (oth b o h1 e)) hS' hl hG hacc
/-- list(z), z a new zip of two tuples -/
theorem callZ {Q : Value → Shared → Prop} (hh : A.handled = none) (D : ZipApart z TI TO i1 i2 l1 l2) (n : Nat) (hn : n ≤ sizeLine) (hxy : ∀ i, i < n → ∃ x y, xs[i]? = some x ∧ ys[i]? = some y) (hend : xs[n]? = none ∨ ys[n]? = none)
    (hz : IsZip s.heap z TI TO .none) (hTI : IsPair s.heap TI (.ref i1) (.ref i2)) (hTO : IsPair s.heap TO .none .none) (h1 : s.heap.IsTupleIter i1 l1 0) (h2 : s.heap.IsTupleIter i2 l2 0) (hl1 : s.heap.IsTuple l1 xs) (hl2 : s.heap.IsTuple l2 ys)
    (hQ : ∀ h' tk acc c as, (∀ b o, b ≠ z → b ≠ TO → b ≠ i1 → b ≠ i2 → s.heap.get? b = some o → h'.get? b = some o) → h'.get? s.heap.objs.size = some { cls := .type "list", dict := none, data := .seq acc c, slots := #[] } → as.length = n → Mad xs ys s.heap.objs.size h' as →
      acc.toList = as.map Value.ref → Q (.ref s.heap.objs.size) { s with heap := h', toks := tk }) :
    wpAny (model prog w) A (call (.type "list") [.ref z]) Q E s := by
  refine callType_codes (Q₁ := fun obj s₁ => obj = .ref s.heap.objs.size ∧ s₁ = { s with heap := s.heap.push { cls := .type "list", data := .seq #[] } }) PySem.F.called_list (PySem.F.typeCall_list_1 _) PySem.F.entry_list_init
    (code_list_new _ ⟨rfl, rfl⟩) fun obj s₁ h₁ => ?_
  obtain ⟨rfl, rfl⟩ := h₁
  have hS : (s.heap.push { cls := .type "list", data := .seq #[] }).get? s.heap.objs.size = some { cls := .type "list", data := .seq #[] } := Heap.get?_push_size _ rfl
  have up : ∀ b o, s.heap.get? b = some o → (s.heap.push { cls := .type "list", data := .seq #[] }).get? b = some o := fun b o e => Heap.get?_push_of_some _ e
  obtain ⟨o1, e1, _⟩ := id h1
  obtain ⟨o2, e2, _⟩ := id h2
  obtain ⟨o3, e3, _⟩ := id hl1
  obtain ⟨o4, e4, _⟩ := id hl2
  have ap : Ap s.heap.objs.size z TI TO i1 i2 l1 l2 := ⟨Heap.lt_size hz, Heap.lt_size hTI, Heap.lt_size hTO, Heap.lt_size e1, Heap.lt_size e2, Heap.lt_size e3, Heap.lt_size e4⟩
  refine ⟨⟨_, hS, rfl⟩, PySem.F.args_list_init_2 _ _, initZ (A := A.in1) hh D ap n hn hxy hend ⟨h1.at fun o e => up _ o e, h2.at fun o e => up _ o e, up _ _ hTI, .inl ⟨up _ _ hz, _, _, up _ _ hTO⟩⟩ (hl1.at fun o e => up _ o e) (hl2.at fun o e => up _ o e) (up _ _ hz) hS (fun h' tk acc c as hk hS' hl hG hacc => ?_)⟩
  exact ⟨rfl, hQ h' tk acc c as (fun b o h2 h3 h4 h5 e => hk b o (Nat.ne_of_lt (Heap.lt_size e)) h2 h3 h4 h5 (up b o e)) hS' hl hG hacc⟩
end
end ZL

set_option maxHeartbeats 4000000
namespace ZL
open PySem PySem.Spec PyProof.Rows L2
/-- the new pairs, tracked -/
def putZ : Hp → List Addr → List (V × V) → Hp
  | H, a :: as, p :: ps => putZ (upd H a (.tup [p.1, p.2])) as ps
  | H, _, _ => H
theorem putZ_off {b : Addr} : ∀ (as : List Addr) (ps : List (V × V)) (H : Hp), b ∉ as → putZ H as ps b = H b
  | [], _, _, _ => rfl
  | _ :: _, [], _, _ => rfl
  | a :: as, p :: ps, H, h => by
    show putZ (upd H a (.tup [p.1, p.2])) as ps b = H b
    rw [putZ_off as ps _ (fun z => h (List.mem_cons_of_mem _ z)), upd_ne (fun z => h (by rw [z]; exact List.mem_cons_self))]
theorem putZ_at : ∀ (as : List Addr) (ps : List (V × V)) (H : Hp), as.length = ps.length → as.Nodup → Paired (fun (t : Addr) (p : V × V) => putZ H as ps t = some (.tup [p.1, p.2])) as ps
  | [], [], _, _, _ => .nil
  | [], _ :: _, _, h, _ => by cases h
  | _ :: _, [], _, h, _ => by cases h
  | a :: as, p :: ps, H, h, hn => by
    have hn' := List.nodup_cons.mp hn
    have ih := putZ_at as ps (upd H a (.tup [p.1, p.2])) (Nat.succ.inj h) hn'.2
    refine .cons ?_ ih
    show putZ (upd H a (.tup [p.1, p.2])) as ps a = some (.tup [p.1, p.2])
    rw [putZ_off as ps _ hn'.1, upd_same]
def rListZip (K : PySem.W.Frag) : List V → Hp → VK → Prop := fun vs H Q => ∃ (a b : Addr) (xs ys : List V), vs = [.ref a, .ref b] ∧ SqT K H a xs ∧ SqT K H b ys ∧
  ∀ (H' : Hp) (p : Addr) (ts : List Addr), (∀ b o, H b = some o → H' b = some o) → H p = none → (∀ t ∈ ts, H t = none) → p ∉ ts → H' p = some (.lst (ts.map V.ref)) → Paired (fun (t : Addr) (q : V × V) => H' t = some (.tup [q.1, q.2])) ts (xs.zip ys) → Q (.ref p) H'
section
variable {X : Cx} {e e2 : Expr} {ta : TA} {p p2 pos pos2 : Pos}
theorem vals_at {xs : List V} {us : List Value} (h : Vals xs us) {j : Nat} {u : Value} (hu : us[j]? = some u) : ∃ x, xs[j]? = some x ∧ RelV x u := by
  induction h generalizing j with
  | nil => simp at hu
  | cons r t ih =>
    cases j with
    | zero =>
      have := Option.some.inj hu
      subst this
      exact ⟨_, rfl, r⟩
    | succ j => exact ih hu
theorem vals_len {xs : List V} {us : List Value} (h : Vals xs us) : xs.length = us.length := by
  induction h with
  | nil => rfl
  | cons r t ih => rw [List.length_cons, List.length_cons, ih]
theorem zip_laid {pins : List (Addr × Obj)} {σ : L2.St} {H : Hp} {s : Shared} {h' : Heap} {tk : Nat} {xs ys : List V} {us ws : List Value} {acc : Array Value} {c S : Nat} {as : List Addr} (I : Inv X pins σ H s) (hz : xs.length ≤ sizeLine) (hx : Vals xs us) (hy : Vals ys ws) (hSl : s.heap.objs.size ≤ S)
    (hk : ∀ b o, s.heap.get? b = some o → h'.get? b = some o) (hS : h'.get? S = some { cls := .type "list", dict := none, data := .seq acc c, slots := #[] }) (hl : as.length = min us.length ws.length) (hG : Mad us.toArray ws.toArray S h' as) (hacc : acc.toList = as.map Value.ref) :
    ∃ H' : Hp, (∀ b o, H b = some o → H' b = some o) ∧ H S = none ∧ (∀ t ∈ as, H t = none) ∧ S ∉ as ∧ H' S = some (.lst (as.map V.ref)) ∧ Paired (fun (t : Addr) (q : V × V) => H' t = some (.tup [q.1, q.2])) as (xs.zip ys) ∧ Inv X pins σ H' { s with heap := h', toks := tk } := by
  have lx := vals_len hx
  have ly := vals_len hy
  have lk : as.length = (xs.zip ys).length := by rw [List.length_zip, lx, ly, hl]
  have hSn : S ∉ as := fun z => Nat.lt_irrefl _ (hG.above _ z)
  have nd : as.Nodup := List.Pairwise.imp (fun {a b} (h : a < b) => Nat.ne_of_lt h) hG.rise
  have new : ∀ t ∈ as, H t = none := fun t ht => I.hok.fresh (Nat.le_trans hSl (Nat.le_of_lt (hG.above t ht)))
  have newS : H S = none := I.hok.fresh hSl
  have atP := putZ_at as (xs.zip ys) (upd H S (.lst (as.map V.ref))) lk nd
  have off : ∀ b, b ∉ as → b ≠ S → putZ (upd H S (.lst (as.map V.ref))) as (xs.zip ys) b = H b := fun b h1 h2 => by rw [putZ_off as _ _ h1, upd_ne h2]
  have low : ∀ b o, s.heap.get? b = some o → b ∉ as ∧ b ≠ S := fun b o e => ⟨fun z => absurd (Heap.lt_size e) (Nat.not_lt.mpr (Nat.le_trans hSl (Nat.le_of_lt (hG.above b z)))), Nat.ne_of_lt (Nat.lt_of_lt_of_le (Heap.lt_size e) hSl)⟩
  have kp : ∀ b u, H b = some u → (putZ (upd H S (.lst (as.map V.ref))) as (xs.zip ys)) b = some u := fun b u e => by
    rw [off b (fun z => by rw [new b z] at e; cases e) (fun z => by rw [z, newS] at e; cases e)]
    exact e
  have eS : putZ (upd H S (.lst (as.map V.ref))) as (xs.zip ys) S = some (.lst (as.map V.ref)) := by rw [putZ_off as _ _ hSn, upd_same]
  refine ⟨putZ (upd H S (.lst (as.map V.ref))) as (xs.zip ys), kp, newS, new, hSn, eS, atP, ?_⟩
  refine I.call' (ch := []) rfl ⟨fun b o q _ _ _ => hk b o q, fun b o q _ _ _ => ⟨o.slots, hk b o q⟩, fun b o q n _ => ?_, fun b o q _ => ⟨o, hk b o q⟩, fun b xs q => kp b _ q, fun b o u q => kp b _ q, fun b ps q => ⟨#[], by rw [kp b _ q]; simp⟩⟩ (fun b u q => ?_) I.bare fun b z => by simp at z
  · obtain ⟨z1, z2⟩ := low b o q
    rw [off b z1 z2]
    exact n
  · by_cases hb : b ∈ as
    · obtain ⟨j, pk, e1, e2, e3⟩ := LiI.paired_ix atP hb
      rw [e3] at q
      cases q
      obtain ⟨x, y, f1, f2, f3⟩ := hG.pairs j b e1
      rw [List.getElem?_toArray] at f1 f2
      obtain ⟨vx, g1, g2⟩ := vals_at hx f1
      obtain ⟨vy, g3, g4⟩ := vals_at hy f2
      have e4 : (xs.zip ys)[j]? = some (vx, vy) := by rw [List.getElem?_zip_eq_some]; exact ⟨g1, g3⟩
      rw [e2] at e4
      have e5 := Option.some.inj e4
      subst e5
      exact ⟨by show 2 ≤ sizeLine; decide, [x, y], .cons g2 (.cons g4 .nil), ⟨_, f3, rfl, _, rfl⟩⟩
    · by_cases hb2 : b = S
      · rw [hb2] at q ⊢
        rw [eS] at q
        cases q
        refine ⟨by rw [List.length_map, hl, ← lx]; omega, acc.toList, c, by rw [hacc]; exact LiI.vals_refs as, ?_⟩
        rw [Array.toArray_toList]
        exact hS
      · rw [off b hb hb2] at q
        exact (I.hok b u q).stay (fun d v _ y => hk d v y) (fun d y => kp d _ y) fun d xs y => kp d _ y
/-- list(zip(e, e2)) -/
theorem pe_listZip (hc : X.calm = true) (ha : PA X [e, e2] ta) (hg : Gl X "list") (hm : X.mg "list" = none) (hv : bootBuiltins "list" = some (.type "list")) (hgz : Gl X "zip") (hmz : X.mg "zip" = none)
    (hs2 : starEach [e, e2] X.env = (false, eval e X.env) :: starEach [e2] X.env := by rfl) (hpl : (backTo pos2 (starEach [e2] X.env)).any (·.1) = false := by rfl)
    (hs : starEach [.Call (.Name "zip" p2) [e, e2] [] pos2] X.env = (false, eval (.Call (.Name "zip" p2) [e, e2] [] pos2) X.env) :: starEach [] X.env := by rfl) :
    PE X (.Call (.Name "list" p) [.Call (.Name "zip" p2) [e, e2] [] pos2] [] pos) (tCB (rListZip X.K) ta) := by
  refine ⟨fun pins s σ H Q I hq => ?_⟩
  refine wpAny_Call_Name_kw (ld_blt I hg hm hv (PyProof.Rows.callWith_type1 ?_ hs rfl))
  rw [hs]
  show wpAny _ _ (spliced ((false, eval (.Call (.Name "zip" p2) [e, e2] [] pos2) X.env) :: backTo pos (starEach [] X.env))) _ _ s
  refine Calls.spliced_cons (Call_ (ld_blt I hgz hmz PyProof.Rows.boot_zip (PyProof.Rows.callWith_type1 (thn (ha.run pos2 pins s σ H _ I hq) fun us s1 ⟨vs, H1, I1, r1, q1⟩ => ?_) hs2 hpl)))
  obtain ⟨a, b, xs, ys, ex, hqx, hqy, q⟩ := q1
  subst ex
  cases r1 with
  | cons r rr =>
    cases rr with
    | cons r' rr =>
      cases rr
      cases r
      cases r'
      obtain ⟨its, rv, p1, hxl⟩ := I1.tuple hqx
      obtain ⟨its2, rv2, p2', _⟩ := I1.tuple hqy
      obtain ⟨o1, ho1, _⟩ := id p1
      obtain ⟨o2, ho2, _⟩ := id p2'
      refine RZ.call_zipT (show s1.heap.IsTuple a its.toArray from p1) (show s1.heap.IsTuple b its2.toArray from p2') fun h' hz hTI hTO h1 h2 hsz hk => Calls.spliced_nil ?_
      have D := PySem.W.ktu_apart s1.heap.objs.size a b (Heap.lt_size ho1) (Heap.lt_size ho2)
      have k1 : h'.IsTuple a its.toArray := (show s1.heap.IsTuple a its.toArray from p1).at fun o e => hk _ o e
      have k2 : h'.IsTuple b its2.toArray := (show s1.heap.IsTuple b its2.toArray from p2').at fun o e => hk _ o e
      have lx := vals_len rv
      have hn : min its.length its2.length ≤ sizeLine := Nat.le_trans (Nat.min_le_left _ _) (by rw [← lx]; exact hxl)
      refine callZ (s := { s1 with heap := h' }) (I1.ok.hd hc) D (min its.length its2.length) hn (fun i hi => ?_) ?_ hz hTI hTO h1 h2 k1 k2 fun h2' tk acc c as hk2 hS hl hG hacc => ?_
      · rw [List.getElem?_toArray, List.getElem?_toArray]
        exact ⟨_, _, List.getElem?_eq_getElem (by omega), List.getElem?_eq_getElem (by omega)⟩
      · rw [List.getElem?_toArray, List.getElem?_toArray, List.getElem?_eq_none_iff, List.getElem?_eq_none_iff]
        omega
      · have keep : ∀ c o, s1.heap.get? c = some o → h2'.get? c = some o := fun c o e => by
          have hlt := Heap.lt_size e
          exact hk2 c o (Nat.ne_of_lt (Nat.lt_of_lt_of_le hlt (Nat.le_add_right _ _))) (Nat.ne_of_lt (Nat.lt_of_lt_of_le hlt (Nat.le_add_right _ _))) (Nat.ne_of_lt hlt) (Nat.ne_of_lt (Nat.lt_of_lt_of_le hlt (Nat.le_add_right _ _))) (hk c o e)
        obtain ⟨H', g1, g2, g3, g4, g5, g6, J⟩ := zip_laid (S := h'.objs.size) (tk := tk) I1 hxl rv rv2 (by rw [hsz]; exact Nat.le_add_right _ _) keep hS hl hG hacc
        exact ⟨.ref _, H', J, rfl, q H' _ as g1 g2 g3 g4 g5 g6⟩
end
end ZL
namespace PV
open PySem PySem.Spec L2 PyProof.Rows
def lzipP : List P → Option Rv
  | [.tup ps, .tup qs] => some (.own (.lst (List.zipWith (fun p q => P.tup [p, q]) ps qs)))
  | _ => none
theorem zip_rps {c : Ctx} {F G : Hp} (l : Le F G) : ∀ {ps qs : List P} {xs ys : List V} {ts : List Addr}, Rps c F ps xs → Rps c F qs ys → Paired (fun (t : Addr) (q : V × V) => G t = some (.tup [q.1, q.2])) ts (xs.zip ys) → Rps c G (List.zipWith (fun p q => P.tup [p, q]) ps qs) (ts.map V.ref)
  | [], qs, xs, ys, ts, h, h2, q => by
    rw [rps_nil_inv h] at q
    cases q
    exact rps_nil
  | p :: ps, [], xs, ys, ts, h, h2, q => by
    rw [rps_nil_inv h2, List.zip_nil_right] at q
    cases q
    exact rps_nil
  | p :: ps, p2 :: qs, xs, ys, ts, h, h2, q => by
    obtain ⟨x, r, rfl, e1, e2⟩ := rps_inv h
    obtain ⟨y, r2, rfl, e3, e4⟩ := rps_inv h2
    rw [List.zip_cons_cons] at q
    cases q with
    | cons q1 q2 =>
      rw [List.zipWith_cons_cons, List.map_cons]
      exact rps_cons (mk_tup q1 (rps_cons (Rp.mono l _ _ e1) (rps_cons (Rp.mono l _ _ e3) rps_nil))) (zip_rps l e2 e4 q2)
theorem v_listZip {c : Ctx} : CalV c (ZL.rListZip c.K) lzipP := by
  intro F H ps xs res Q l h e k
  unfold lzipP at e
  split at e
  · cases e
    rename_i p1 p2
    obtain ⟨v1, v2, rfl, r1, r2⟩ := rbs2 h
    obtain ⟨a, us, rfl, g1, g2⟩ := r1.tup l
    obtain ⟨b, ws, rfl, g3, g4⟩ := r2.tup l
    refine ⟨a, b, us, ws, rfl, g1, g3, fun H' q ts k1 k2 k3 k4 k5 k6 => ?_⟩
    have lF : Le F (addT F H' ts) := fun b u e => by
      left
      unfold addT
      rw [if_neg (fun z => by have := l.gone (k3 b z); rw [this] at e; cases e)]
      exact e
    have lH : Le (addT F H' ts) H' := fun b u e => by
      unfold addT at e
      split at e
      · exact .inl e
      · rcases l b u e with z | ⟨z, ob, y⟩
        · exact .inl (k1 _ _ z)
        · exact .inr ⟨z, ob, k1 _ _ y⟩
    have gr : Gr F H (addT F H' ts) H' := ⟨lF, lH, k1, fun b hb => by
      unfold addT at hb
      split at hb
      · rename_i z; exact .inr (k3 b z)
      · exact .inl hb⟩
    have pG : Paired (fun (t : Addr) (q : V × V) => addT F H' ts t = some (.tup [q.1, q.2])) ts (us.zip ws) := by
      have : ∀ {us : List Addr} {ks : List (V × V)}, (∀ t ∈ us, t ∈ ts) → Paired (fun (t : Addr) (q : V × V) => H' t = some (.tup [q.1, q.2])) us ks → Paired (fun (t : Addr) (q : V × V) => addT F H' ts t = some (.tup [q.1, q.2])) us ks := by
        intro us ks hm hp
        induction hp with
        | nil => exact .nil
        | cons a t ih => exact .cons (by unfold addT; rw [if_pos (hm _ List.mem_cons_self)]; exact a) (ih fun t ht => hm t (List.mem_cons_of_mem _ ht))
      exact this (fun t h => h) k6
    refine k _ _ _ gr ⟨q, rfl, k2, ?_, _, k5, zip_rps lF g2.1 g4.1 pG⟩
    unfold addT
    rw [if_neg k4]
    exact l.gone k2
  · cases e
section
variable {X : Cx} {c : Ctx} {w : Wi} {e e2 : Expr} {fa : M (List Rs)} {p p2 pos pos2 : Pos}
theorem p_listZip (hK : X.K = c.K) (hc : X.calm = true) (ha : PA X [e, e2] (tR c w fa)) (hg : Gl X "list") (hm : X.mg "list" = none) (hv : bootBuiltins "list" = some (.type "list")) (hgz : Gl X "zip") (hmz : X.mg "zip" = none)
    (hs2 : starEach [e, e2] X.env = (false, eval e X.env) :: starEach [e2] X.env := by rfl) (hpl : (backTo pos2 (starEach [e2] X.env)).any (·.1) = false := by rfl)
    (hs : starEach [.Call (.Name "zip" p2) [e, e2] [] pos2] X.env = (false, eval (.Call (.Name "zip" p2) [e, e2] [] pos2) X.env) :: starEach [] X.env := by rfl) :
    PE X (.Call (.Name "list" p) [.Call (.Name "zip" p2) [e, e2] [] pos2] [] pos) (tE c w (calF lzipP fa)) :=
  pe_weak (ZL.pe_listZip hc ha hg hm hv hgz hmz hs2 hpl hs) fun σ H Q q => by
    rw [hK]
    exact cal_weak v_listZip σ H Q q
end
end PV

set_option maxHeartbeats 4000000
namespace PV
open PySem PySem.Spec L2 PyProof.Rows
/-! ### {k: v} -/
section
variable {c : Ctx} {F F2 H H2 : Hp} {π π2 : En} {σ σ2 : L2.St} {p : Addr} {u v : HO}
theorem Tr.over (t : Tr F π σ (L2.upd H p u) F2 π2 σ2 H2) (hp : H p = none) : Tr F π σ H F2 π2 σ2 (L2.upd H2 p v) where
  le := t.le
  keep := fun a o h n => by
    have ha : a ≠ p := fun z => by rw [z, hp] at h; cases h
    rw [upd_ne ha]
    exact t.keep a o (by rw [upd_ne ha]; exact h) n
  new := fun a h => by
    by_cases ha : a = p
    · subst ha; exact .inr (.inl hp)
    · have := t.new a h
      rw [upd_ne ha] at this
      exact this
  own := fun a h => by
    by_cases ha : a = p
    · subst ha; exact .inl hp
    · have := t.own a h
      rw [upd_ne ha] at this
      exact this
  ln := t.ln
theorem Tr.offF (t : Tr F π σ (L2.upd H p u) F2 π2 σ2 H2) (s : SR c F π σ H) (hp : H p = none) : F2 p = none ∧ ¬ Own π2 σ2 p ∧ H2 p = some u := by
  have no : ¬ Own π σ p := fun z => by
    obtain ⟨w, hw⟩ := own_some s z
    rw [hp] at hw; cases hw
  refine ⟨?_, fun z => ?_, t.keep p u upd_same no⟩
  · cases e : F2 p with
    | none => rfl
    | some w =>
      rcases t.new p (by rw [e]; simp) with h | h | h
      · exact absurd (s.le.gone hp) h
      · rw [upd_same] at h; cases h
      · exact absurd h no
  · rcases t.own p z with h | h
    · rw [upd_same] at h; cases h
    · exact no h
theorem SR.over (s : SR c F π σ H) (hF : F p = none) (hO : ¬ Own π σ p) : SR c F π σ (L2.upd H p u) where
  le := s.le.updR _ hF
  len := s.len
  vl := s.vl
  ow := fun i sl o e1 e2 => by
    obtain ⟨a, h1, h2, h3⟩ := s.ow i sl o e1 e2
    have ha : a ≠ p := fun z => hO ⟨i, sl, o, e1, e2, by rw [← z]; exact h1⟩
    exact ⟨a, h1, h2, h3.step (Le.refl _) fun w e => by rw [upd_ne ha]; exact e⟩
  dj := s.dj
end
def dspF (fk : M Rs) (fv : M P) : M Rs := fun π => (fk π).bind fun r π1 => match r with
  | .val q => (fv π1).bind fun p π2 => match keyQ q with
    | some k => .ok (.own (dO [(k, p)])) π2
    | none => .bad
  | _ => .bad
section
variable {X : Cx} {c : Ctx} {w : Wi} {k v : Expr} {pos : Pos} {fk : M Rs} {fv : M P}
theorem p_dsp (hk : PE X k (tE c w fk)) (hv : PE X v (tV c w fv)) : PE X (.Dict [some k] [v] pos) (tE c w (dspF fk fv)) :=
  pe_weak (pe_disp (pps_cons hk hv pps_nil) rfl rfl (by simp) (by simp)) fun σ H Q ⟨F, π, gg, s, po⟩ p hp => by
    have gr : Gr F H F (L2.upd H p (.dK [])) := gr_any s.le hp
    have s0 := gr.sr (σ := σ) (π := π) s
    refine ⟨F, π, gg, s0, ?_⟩
    unfold dspF at po
    cases e0 : fk π with
    | bad => rw [e0] at po; exact po
    | exc C qs π1 => rw [e0] at po; exact Po.from po gr.tr
    | ok r π1 =>
      rw [e0] at po
      intro F1 H1 t1 s1 x hx
      simp only [Out.bind] at po
      cases r with
      | own o => exact po.elim
      | bor j => exact po.elim
      | val q =>
        refine ⟨F1, π1, w.mono _ _ t1.le gg, s1, ?_⟩
        simp only [] at po
        cases e1 : fv π1 with
        | bad => rw [e1] at po; exact po
        | exc C qs π2 => rw [e1] at po; exact Po.from (Po.from po gr.tr) t1
        | ok pv π2 =>
          rw [e1] at po
          intro F2 H2 t2 s2 y hy
          simp only [Out.bind] at po
          cases e2 : keyQ q with
          | none => rw [e2] at po; exact po.elim
          | some kk =>
            rw [e2] at po
            have t12 := t1.trans t2
            obtain ⟨o1, o2, o3⟩ := t12.offF s hp
            have hxk : x = kV kk := by
              have z : Rp c F1 q x := hx
              rw [keyQ_of e2] at z
              exact rp_kV.mp z
            subst hxk
            refine ⟨o3, [(kk, y)], rfl, by simp, ?_⟩
            have sf := s2.over (u := .dK [(kk, y)]) o1 o2
            refine po F2 _ (t12.over hp) sf (.ref p) ⟨p, rfl, o1, o2, mk_own upd_same ?_ (by simp), .inl hp⟩
            exact DR.cons rfl hy .nil
end
end PV

set_option maxHeartbeats 4000000
/-! a, b = a list -/
namespace UL
open PySem PySem.W PySem.Spec PyProof.Rows
section
variable {prog : Program} {w : World} {A : Around} {E : Value → Shared → Prop} {s : Shared}
theorem draw_list {it t : Addr} {items : Array Value} (hne : t ≠ it) : ∀ (n i : Nat) (s : Shared) (Q : List Value → Shared → Prop), s.heap.IsListIter it t i → s.heap.IsList t items → i + n ≤ items.size →
    (∀ h', h'.IsListIter it t (i + n) → Heap.SameBut it s.heap h' → Q ((items.toList.drop i).take n) { s with heap := h' }) → wpAny (model prog w) A (draw (.ref it) n) Q E s
  | 0, i, s, Q, hit, _, _, hQ => by
    show wpAny _ _ (pure []) Q E s
    exact wpAny_pure (by simpa using hQ s.heap hit (Heap.SameBut.refl ..))
  | n + 1, i, s, Q, hit, ht, hle, hQ => by
    have hlt : i < items.size := by omega
    show wpAny _ _ (pyNext (.ref it) >>= _) Q E s
    refine wpAny_bind (wpAny_pyNext_list_item hit ht (x := items[i]) (by simp [hlt]) fun h₁ hit₁ hs₁ => ?_)
    refine wpAny_bind (wpAny_holding (draw_list hne n (i + 1) _ _ hit₁ (ht.extBut hs₁.extBut hne) (by omega) fun h₂ hit₂ hs₂ => wpAny_pure ?_))
    have hd : items.toList.drop i = items[i] :: items.toList.drop (i + 1) := by simp [List.drop_eq_getElem_cons, hlt]
    have := hQ h₂ (by rw [show i + (n + 1) = i + 1 + n by omega]; exact hit₂) (hs₁.trans hs₂)
    rw [hd, List.take_succ_cons] at this
    exact this
theorem unpackItems_list {t : Addr} {items : Array Value} {Q : List Value → Shared → Prop} (hh : A.handled = none) (ht : s.heap.IsList t items)
    (hQ : ∀ h', Heap.ExtBut s.heap.objs.size s.heap h' → Q items.toList { s with heap := h' }) : wpAny (model prog w) A (unpackItems (.ref t) items.size none) Q E s := by
  have hlt : t ≠ s.heap.objs.size := by obtain ⟨o, ho, _⟩ := ht; exact Nat.ne_of_lt (Heap.lt_size ho)
  unfold unpackItems
  refine wpAny_bind ?_
  · unfold notIterableAtAll
    refine wpAny_bind (wpAny_specialOf ht.typeIs PySem.F.slot_list_iter.lookup ?_)
    refine wpAny_pure ?_
    simp only [Bool.false_eq_true, if_false]
    refine wpAny_bind (wpAny_holding (wpAny_pyIter_list ht ?_))
    have ht0 : (s.heap.push { cls := .type "list_iterator", data := .fields #[.ref t, .int 0 0] }).IsList t items := ht.at fun o e => Heap.get?_push_of_some _ e
    refine wpAny_bind (wpAny_holding (draw_list hlt items.size 0 _ _ ⟨_, Heap.get?_push_size _ rfl, rfl, rfl⟩ ht0 (by omega) fun h₁ hit₁ hs₁ => ?_))
    have hall : List.take items.size (List.drop 0 items.toList) = items.toList := by
      rw [List.drop_zero]; exact List.take_of_length_le (by simp)
    rw [hall]
    rw [if_neg (by simp)]
    have ht₁ : h₁.IsList t items := ht0.extBut hs₁.extBut hlt
    refine wpAny_bind (wpAny_holding (wpAny_pyNext_list_end hh hit₁ ht₁ (by simp) fun h₂ he₂ => ?_))
    simp only [Option.isSome_none, Bool.false_eq_true, if_false]
    refine wpAny_pure (hQ h₂ fun b o hb e => he₂ b o hb (hs₁.extBut b o hb (Heap.get?_push_of_some _ e)))
theorem unpack_list {t : Addr} {items : Array Value} {targets : List (Bool × (Value → Sem Unit))} {Q : Unit → Shared → Prop} (hh : A.handled = none) (ht : s.heap.IsList t items)
    (hn : targets.length = items.size) (hstar : targets.findIdx? (·.1) = none)
    (h : ∀ h', Heap.ExtBut s.heap.objs.size s.heap h' → wpAny (model prog w) A (assignInOrder (targets.map (·.2)) items.toList) Q E { s with heap := h' }) :
    wpAny (model prog w) A (unpack (.ref t) targets) Q E s := by
  unfold unpack
  rw [hn, hstar]
  exact wpAny_bind (wpAny_holding (unpackItems_list hh ht h))
theorem assign_Tuple_list {env : Env} {elts : List Expr} {x1} {pos : Pos} {t : Addr} {items : Array Value} {Q : Unit → Shared → Prop} (hh : A.handled = none) (ht : s.heap.IsList t items)
    (hn : (assignEach elts env).length = items.size) (hstar : (assignEach elts env).findIdx? (·.1) = none)
    (h : ∀ h', Heap.ExtBut s.heap.objs.size s.heap h' → wpAny (model prog w) A (assignInOrder ((assignEach elts env).map (·.2)) items.toList) Q E { s with heap := h' }) :
    wpAny (model prog w) A (assign (.Tuple elts x1 pos) env (.ref t)) Q E s := by
  rw [PyProof.Rows.assign_Tuple]
  exact wpAny_bind (wpAny_standAt (unpack_list hh ht hn hstar h))
end
end UL
namespace PV
open PySem PySem.Spec L2 PyProof.Rows
def gSeq (K : PySem.W.Frag) (n : Nat) (t : TGs) : TG := fun v σ H Q => ∃ a xs, v = .ref a ∧ (SqT K H a xs ∨ SqL K H a xs) ∧ xs.length = n ∧ t xs σ H Q
section
variable {X : Cx} {c : Ctx} {w : Ws} {es : List Expr} {pos : Pos} {u : List P → En → Option En} {sl : List Nat}
theorem pg_seq {k : Nat} {t : TGs} {n : Nat} (hc : X.calm = true) (h : PGs X es t)
    (hn : (assignEach es X.env).length = n := by rfl) (hst : (assignEach es X.env).findIdx? (·.1) = none := by rfl) : PG X (.Tuple es k pos) (gSeq X.K n t) := by
  refine ⟨fun pins s σ H v u Q I r hw => ?_⟩
  obtain ⟨a, xs, e1, hq, hl, hw⟩ := hw
  subst e1
  cases r
  rcases hq with hq | hq
  · obtain ⟨its, rv, ht, hz⟩ := I.tuple hq
    refine PyProof.Rows.assign_Tuple_tuple (I.ok.hd hc) ht (by simp [hn, ← hl, rv.length]) hst fun h' hx => ?_
    have I1 : Inv X pins σ H { s with heap := h' } := I.kept (t' := s.toks) fun b o e => hx b o (Nat.ne_of_lt (Heap.lt_size e)) e
    exact h.run pins _ σ H xs _ Q I1 (by simpa using rv) hw
  · obtain ⟨its, rv, ht, hz⟩ := I.list hq
    refine UL.assign_Tuple_list (I.ok.hd hc) ht.isList (by simp [hn, ← hl, rv.length]) hst fun h' hx => ?_
    have I1 : Inv X pins σ H { s with heap := h' } := I.kept (t' := s.toks) fun b o e => hx b o (Nat.ne_of_lt (Heap.lt_size e)) e
    exact h.run pins _ σ H xs _ Q I1 (by simpa using rv) hw
def seqT (t : List P → En → Option En) : TgF
  | .tup ps => t ps
  | .lst ps => t ps
  | _ => fun _ => none
theorem g_seq {k n : Nat} (hK : X.K = c.K) (hc : X.calm = true) (h : PGs X es (tGs c w sl u)) (hl : Arity n u)
    (hn : (assignEach es X.env).length = n := by rfl) (hst : (assignEach es X.env).findIdx? (·.1) = none := by rfl) : PG X (.Tuple es k pos) (tG c w sl (seqT u)) :=
  pg_weak (pg_seq (n := n) hc h hn hst) fun v σ H Q ⟨F, π, p, gg, s, r, po⟩ => by
    have fin : ∀ ps : List P, ∀ vs : List V, Rps c F ps vs → PoT c F π σ H sl (u ps π) Q → vs.length = n := fun ps vs h2 po' => by
      rw [← rps_len h2]
      cases e : u ps π with
      | none => rw [e] at po'; exact po'.elim
      | some π1 => exact hl ps π π1 e
    cases p with
    | tup ps =>
      obtain ⟨a, vs, rfl, h1, h2⟩ := rp_tup r
      exact ⟨a, vs, rfl, .inl (by rw [hK]; exact s.le.sqT h1), fin ps vs h2 po, F, π, ps, gg, s, h2, po⟩
    | lst ps =>
      unfold Rp at r
      obtain ⟨a, vs, rfl, h1, h2⟩ := r
      exact ⟨a, vs, rfl, .inr (.of (s.le.lst h1)), fin ps vs h2 po, F, π, ps, gg, s, h2, po⟩
    | _ => exact po.elim
end
end PV

set_option maxHeartbeats 4000000
namespace UL
open PySem PySem.W PySem.Spec PyProof.Rows PySem.Calls
theorem extend_tup (l : Addr) (items : Array Value) (n : Nat) (b : Addr) (items2 : Array Value) (hs0 : ¬(!items.isEmpty && Builtin.List.listTooLong (items.size + items2.size)) = true) (hs1 : items.size ≤ sizeLine) (hs2 : items.size + items2.size ≤ sizeLine + 1) :
    Meets (Builtin.«list.extend» ⟨[.ref l, .ref b], []⟩) (fun _ R s => s.heap.get? l = some { cls := .type "list", dict := none, data := .seq items n, slots := #[] } ∧ IsTup s.heap b items2 ∧ R (.ok (.ret Value.none)) { s with heap := s.heap.update l (Obj.mapSeq fun x => x ++ items2), toks := s.toks }) :=
  .of_wp fun prog w A R s h => by
    obtain ⟨hl, hb, h⟩ := h
    have hz' : (items ++ items2).size ≤ sizeLine + 1 := by rw [Array.size_append]; exact hs2
    have hT : s.TypeIs (.ref b) "tuple" := hb.typeIs
    obtain ⟨ob, hob, hc, nb, hdb⟩ := hb
    show wpAny _ _ (Builtin.List.listExtendWith (.ref l) (.ref b) .none) _ _ s
    unfold Builtin.List.listExtendWith
    refine wpAny_bind (wpAny_typeOf hT ?_)
    have h3 : (Value.type "tuple" == Value.type "tuple") = true := by decide
    simp only [h3, Bool.or_true, if_true]
    refine wpAny_bind ?_
    unfold Builtin.List.listItems
    refine wpAny_bind (wpAny_seqItems hob hdb (wpAny_pure ?_))
    refine wpAny_bind (wpAny_bind (wpAny_seqItems hl rfl (wpAny_pure ?_)))
    rw [if_neg hs0]
    refine wpAny_bind ?_
    show wpAny _ _ (updateSeq l (· ++ items2)) _ _ _
    refine wpAny_updateSeq hl rfl (hz := hs1) (_hz' := hz') ?_
    exact wpAny_pure ⟨_, rfl, h⟩
end UL
namespace PV
open PySem PySem.Spec L2 PyProof.Rows
/-! extend by a list or a tuple -/
def rExtendS (K : PySem.W.Frag) : V → List V → Hp → VK → Prop := fun x vs H Q => rExtend x vs H Q ∨ ∃ l b xs zs, x = .ref l ∧ vs = [.ref b] ∧ H l = some (.lst xs) ∧ SqT K H b zs ∧ xs.length + zs.length ≤ sizeLine ∧ Q .non (upd H l (.lst (xs ++ zs)))
theorem mt_extendS {X : Cx} : MtM X "list.extend" (rExtendS X.K) := by
  intro pins s σ H x vs v us Q I rx rv h
  rcases h with h | h
  · exact mt_extend pins s σ H x vs v us Q I rx rv h
  · obtain ⟨l, b, xs, zs, rfl, rfl, hH, hB, hz, q⟩ := h
    cases rx
    obtain ⟨u, rfl, ru⟩ := rv.one
    cases ru
    obtain ⟨z, its, n, r, hl, e⟩ := I.lstM hH
    obtain ⟨its2, r2, e2, hl2⟩ := I.tuple hB
    have hl3 := r2.length
    have hsz : its.toArray.size + its2.toArray.size ≤ sizeLine := by rw [List.size_toArray, List.size_toArray]; omega
    have hlong : ¬ (!its.toArray.isEmpty && Builtin.List.listTooLong (its.toArray.size + its2.toArray.size)) = true := by
      rw [notLongL hsz, Bool.and_false]
      exact Bool.false_ne_true
    refine call_meets F.slot_list_extend ⟨_, e, rfl⟩ F.entry_list_extend (F.args_list_extend_2 _ _)
      (UL.extend_tup l its.toArray n b its2.toArray hlong (by rw [List.size_toArray]; omega) (by omega)) ⟨e, e2, ?_⟩
    refine ⟨.non, _, I.lset (its' := its ++ its2) hH e (by simp) (r.append r2) ?_, rfl, q⟩
    rw [List.length_append]
    omega
def extSP : List P → List P → Option (P × List P)
  | xs, [.lst ys] => if xs.length + ys.length ≤ 1000000 then some (.non, xs ++ ys) else none
  | xs, [.tup ys] => if xs.length + ys.length ≤ 1000000 then some (.non, xs ++ ys) else none
  | _, _ => none
theorem v_extendS {c : Ctx} : MlVL c (rExtendS c.K) extSP := by
  intro F H xs ps vs ws a q ys Q l h1 h2 h3 e k
  have hs := sizeLine_eq
  unfold extSP at e
  split at e
  · rename_i zs
    split at e
    · cases e
      obtain ⟨v, t, rfl, r1, r2⟩ := rps_inv h3
      have := rps_nil_inv r2
      subst this
      obtain ⟨b, us, rfl, g1, g2⟩ := rp_lst r1
      have n1 := rps_len h2
      have n2 := rps_len g2
      exact .inl ⟨a, b, vs, us, rfl, rfl, h1, l.lst g1, by omega, k _ _ mk_non (rps_append h2 g2)⟩
    · cases e
  · rename_i zs
    split at e
    · cases e
      obtain ⟨v, t, rfl, r1, r2⟩ := rps_inv h3
      have := rps_nil_inv r2
      subst this
      obtain ⟨b, us, rfl, g1, g2⟩ := rp_tup r1
      have n1 := rps_len h2
      have n2 := rps_len g2
      exact .inr ⟨a, b, vs, us, rfl, rfl, h1, l.sqT g1, by omega, k _ _ mk_non (rps_append h2 g2)⟩
    · cases e
  · cases e
end PV

namespace PV
open PySem PySem.Spec L2 PyProof.Rows

/-! ### a comprehension whose element raises -/
/-- the block's context, its raises told by xe -/
abbrev blkX (X : Cx) (s : Shared) (H : Hp) (sc : Scope) (ce : Env) (fp : List Addr) (xe : Value → Shared → Prop) : Cx := { X.blk s H sc ce fp with xe := xe }
theorem inv_xe {X : Cx} {xe : Value → Shared → Prop} {pins : List (Addr × Obj)} {σ : L2.St} {H : Hp} {s : Shared} (J : Inv X pins σ H s) : Inv { X with xe := xe } pins σ H s :=
  ⟨⟨J.ok.mod, J.ok.kind, J.ok.glob, J.ok.blt, J.ok.above, J.ok.inj, J.ok.has, J.ok.cab, J.ok.hd, J.ok.frames, J.ok.stk, J.ok.exf, J.ok.bs, J.ok.bsz, J.ok.noex, J.ok.exfs, J.ok.funs, J.ok.frf⟩,
    J.os, J.bare, J.base, J.loc, J.cell, J.free, J.freeC, J.pin, J.hok, J.len⟩
theorem inv_ex {X : Cx} {xe xe' : Value → Shared → Prop} {pins : List (Addr × Obj)} {σ : L2.St} {H : Hp} {s : Shared} (J : Inv { X with xe := xe } pins σ H s) : Inv { X with xe := xe' } pins σ H s :=
  inv_xe (X := { X with xe := xe }) J
section
variable {M : Model} {A : Around} {E : Value → Shared → Prop} {s : Shared} {Z : Obj → Prop} {base : Heap} {env : Env} {outer l : List Env} {L L0 e : Addr}
/-- held by another frame's own hand: noted by this one -/
theorem note_held {Q : Unit → Shared → Prop} (hZ : HandSPX.Steady Z) (hfr : A.frames = some (env :: outer)) (hf : env.frame = some L) (hh : HandSPX.HeldZ base (env :: outer) e Z L0 s.heap)
    (hQ : ∀ h', HandSPX.HeldZ base (env :: outer) e Z L h' → s.heap.UpToSlots h' → Q () { s with heap := h' }) : wpAny M A (noteFrame (.ref e) env) Q E s := by
  by_cases q : L0 = L
  · subst q
    exact HandSPX.againZ hf hh.2.2.2 (hQ s.heap hh (Heap.UpToSlots.refl _))
  obtain ⟨c1, c2, c3, oe, vs, T, oT, ts, c4, c5, c6, c7, c8, c9, d1, d2, d3⟩ := hh
  unfold noteFrame
  simp only [hf]
  refine wpAny_bind (wpAny_field c4 c6 c7 (by
    rw [if_pos (by simp : (Value.ref T != Value.none) = true)]
    refine wpAny_bind (wpAny_field d1 d2 d3 ?_)
    have ne : ¬ (rawInt L0 == rawInt L) = true := fun z => by
      have z2 : (Value.int (L0 : Nat) 0 == Value.int (L : Nat) 0) = true := z
      have z3 : ((L0 : Nat) : Int) = ((L : Nat) : Int) := by simpa using z2
      exact q (Int.ofNat.inj z3)
    rw [if_neg ne]
    have lt3 := (Array.getElem?_eq_some_iff.mp d3).1
    refine wpAny_bind (wpAny_setField d1 d2 lt3 ?_)
    have oth : ∀ b, b ≠ T → (s.heap.update T (Obj.mapFields (·.setIfInBounds 3 Value.none))).get? b = s.heap.get? b := fun b n => Heap.get?_update_other _ _ fun z => n z.symm
    have nT : ∀ b o, s.heap.get? b = some o → (∀ ws, o.data ≠ .fields ws) → b ≠ T := fun b o g n z => by
      subst z
      rw [d1] at g
      cases g
      exact n ts d2
    refine HandSPX.wpAny_entryZ hZ hfr (c3.of_keeps fun b o g n => ⟨o, by rw [oth b (nT b o g n)]; exact g, rfl⟩) hf (by rw [oth e fun z => c9 z.symm]; exact c4) (fun b o g => ?_) c2 c6 (Array.getElem?_eq_some_iff.mp c7).1 c5 fun h' N => ?_
    · rw [oth b fun z => by subst z; rw [c8] at g; cases g]
      exact c1 b o g
    · exact hQ h' ⟨N.1, c2, N.2.1, N.2.2.1⟩ fun b o g n => N.2.2.2 b o (by rw [oth b (nT b o g n)]; exact g) n))
theorem sky_note {Q : Unit → Shared → Prop} (hZ : HandSPX.Steady Z) (hfr : A.frames = some (env :: outer)) (hf : env.frame = some L) (x : Sky base (env :: outer) e Z L0 s.heap)
    (hQ : ∀ h', HandSPX.HeldZ base (env :: outer) e Z L h' → s.heap.UpToSlots h' → Q () { s with heap := h' }) : wpAny M A (noteFrame (.ref e) env) Q E s := by
  rcases x with ⟨a1, a2, a3, oe, vs, a4, a5, a6, a7⟩ | x | x
  · exact HandSPX.look_newZ hZ hfr a3 hf a4 a1 a2 a6 a7 a5 hQ
  · exact HandSPX.looks_onZ hZ hfr hf x hQ
  · exact note_held hZ hfr hf x hQ
/-- another block of names is let go -/
theorem held_same {h h' : Heap} {C : Addr} {m m' : Str → Option Value} (x : HandSPX.HeldZ base l e Z L h) (hn : h.Ns C m) (hn' : h'.Ns C m') (sb : Heap.SameBut C h h') :
    HandSPX.HeldZ (PySem.W.hideAll base [C]) l e Z L h' := by
  obtain ⟨c1, c2, c3, oe, vs, T, oT, ts, c4, c5, c6, c7, c8, c9, d1, d2, d3⟩ := x
  obtain ⟨oC, es, ep, g1, g2, _⟩ := hn
  have nf : ∀ {b : Addr} {o : Obj} {ws : Array Value}, h.get? b = some o → o.data = .fields ws → b ≠ C := fun {b o ws} g q z => by
    subst z
    rw [g1] at g
    cases g
    rw [g2] at q
    cases q
  have hid : ∀ b, base.get? b = none → (PySem.W.hideAll base [C]).get? b = none := fun b z => by
    cases q : (PySem.W.hideAll base [C]).get? b with
    | none => rfl
    | some o => rw [PySem.W.of_hideAll _ q] at z; cases z
  have ff : ∀ {l : List Env} {g : Heap}, g.FunFrames base l → g.FunFrames (PySem.W.hideAll base [C]) l := fun {l} => by
    induction l with
    | nil => intro g _; trivial
    | cons env r ih =>
      intro g z
      obtain ⟨k1, ⟨L', o, k2, k3, k4, k5⟩, k6⟩ := z
      exact ⟨k1, ⟨L', o, k2, hid _ k3, k4, k5⟩, ih k6⟩
  refine ⟨fun b o g => ?_, hid _ c2, ff (Heap.FunFrames.sameBut sb hn' c3), oe, vs, T, oT, ts, ?_, c5, c6, c7, hid _ c8, c9, ?_, d2, d3⟩
  · have nb : b ≠ C := fun z => by
      subst z
      rw [PySem.W.hideAll_none _ List.mem_cons_self] at g
      cases g
    exact (sb.2 b nb).trans (c1 b o (PySem.W.of_hideAll _ g))
  · exact (sb.2 _ (nf c4 c6)).trans c4
  · exact (sb.2 _ (nf d1 d2)).trans d1
end
/-- a raise out of the block is a raise of ours -/
theorem blk_out {X : Cx} {W : WX} {pins : List (Addr × Obj)} {σ : L2.St} {s3 : Shared} {H3 : Hp} {sc : Scope} {ce : Env} {fp : List Addr} {xe : Value → Shared → Prop} (hs : X.stack = X.env :: X.outer) (hf : X.env.frame = some X.env.locals) (tk : Takes X W)
    (hcf : ce.frame = X.env.frame) (hcl : ce.locals = s3.heap.objs.size) (J3 : Inv X pins σ H3 s3) (hfp : ∀ b ∈ fp, FpOk X pins H3 b ∧ b < s3.heap.objs.size) {u : Value} {s' : Shared}
    (x : XE (blkX X s3 H3 sc ce fp xe) (fun cls d _ H' => W cls d σ H') u s') : notedBy (model X.prog X.w) X.A ce (CompFails (model X.prog X.w) X.A X.xe ce) u s' := by
  obtain ⟨a, B, sI, pins', σ', H', cls, d, rfl, J, nb, up, sky, na, os, ag, w⟩ := x
  have hfr : X.A.frames = some (X.env :: X.outer) := by rw [J3.ok.frames, hs]
  show wpAny _ X.A (noteFrame (.ref a) ce) _ _ s'
  rw [noteFrame_env _ hcf]
  have sky' : Sky B (X.env :: X.outer) a (Zc cls d) ce.locals s'.heap := by rw [← hs]; exact sky
  refine sky_note Zc.steady hfr hf sky' fun h1 hh1 up1 => ?_
  obtain ⟨m, hn, _⟩ := J.loc
  have hn0 : sI.heap.Ns ce.locals m := hn
  have hn1 : h1.Ns ce.locals m := (hn0.upToSlots up).upToSlots up1
  refine ⟨m, hn1, fun h2 m2 hn2 sb => ?_⟩
  have hh2 := held_same hh1 hn1 hn2 sb
  unfold PySem.passOn
  obtain ⟨k1, k2, k3, oe, vs, T, oT, ts, k4, k5, k6, k7, k8⟩ := id hh2
  refine wpAny_bind (wpAny_field k4 k6 k7 ?_)
  rw [if_neg (by simp : ¬ (Value.ref T == Value.none) = true)]
  rw [hcf, hf]
  refine wpAny_bind (HandSPX.setFlight_onZ hh2 fun h4 hh4 up4 => wpAny_throw (tk _ _ ?_))
  have J7 : Inv X pins σ H' sI := J3.call' (ch := fp) J.os J.base J.hok J.bare fun b hb => ⟨(hfp b hb).1.2.2.2.1, (hfp b hb).1.2.1, (hfp b hb).1.2.2.2.2.1, (hfp b hb).1.2.2.2.2.2⟩
  have nC : H' ce.locals = none := J.free
  have fC : FpOk X pins H' ce.locals := J3.fpOk (Nat.le_of_eq hcl.symm) nC
  obtain ⟨f0, f1, f2, f3, f4, f5⟩ := fC
  have out : ∀ {b : Addr} {o : Obj}, (PySem.W.hideAll sI.heap [ce.locals]).get? b = some o → b ≠ ce.locals := fun {b o} g z => by
    subst z
    rw [PySem.W.hideAll_none _ List.mem_cons_self] at g
    cases g
  have J8 := J7.turned (h' := PySem.W.hideAll sI.heap [ce.locals]) (t' := sI.toks) (it := ce.locals) (fun b o n g => PySem.W.hideAll_get _ g (by simpa using n)) f0 f1 f3 f4 f5
  refine ⟨a, PySem.W.hideAll B [ce.locals], { sI with heap := PySem.W.hideAll sI.heap [ce.locals], toks := sI.toks }, pins, σ, H', cls, d, rfl, J8, fun b o g n => ?_, fun b o g n => ?_, .inr (.inr (by rw [hs]; exact hh4)), na, os, ag, w⟩
  · exact PySem.W.hideAll_get _ (nb b o (PySem.W.of_hideAll _ g) n) (by simpa using out g)
  · obtain ⟨sl1, e1⟩ := up b o (PySem.W.of_hideAll _ g) n
    obtain ⟨sl2, e2⟩ := up1 b _ e1 n
    have e3 := (sb.2 b (out g)).trans e2
    obtain ⟨sl3, e4⟩ := up4 b _ e3 n
    exact ⟨sl3, e4⟩
end PV

namespace PV
open PySem PySem.Spec L2 PyProof.Rows

section
variable {X : Cx} {W : WX}
/-- [elt for tg in iter if ..], an element may raise what W takes -/
theorem lcx_core {pins : List (Addr × Obj)} {s : Shared} {σ : L2.St} {H : Hp} {Q : VK} {elt tg iter : Expr} {ifs : List Expr} {sc : Scope} {own : List (Str × Nat)} {pos pos' : Pos} {wi : TI} {g : TG} {tt : TT} {te : WX → TE} {use : Option (Value → Sem Unit)} {Qf : Value → Shared → Prop}
    (hst : X.stack = X.env :: X.outer) (hfr : X.env.frame = some X.env.locals) (tk : Takes X W) (hc : X.calm = true) (hN : X.N.Nodup) (J : Inv X pins σ H s) (hi : PI X tg iter wi) (ok : BlkOk X.N X.env.scope sc own)
    (hg : ∀ (s : Shared) (H : Hp) (C : Addr) (cl : List (Str × Addr)) (fp : List Addr), PG (X.blk s H sc (compEnvC sc cl C X.env) fp) tg g)
    (ht : ∀ (s : Shared) (H : Hp) (C : Addr) (cl : List (Str × Addr)) (fp : List Addr), PTs (X.blk s H sc (compEnvC sc cl C X.env) fp) ifs tt)
    (he : ∀ (s : Shared) (H : Hp) (C : Addr) (cl : List (Str × Addr)) (fp : List Addr) (xe : Value → Shared → Prop) (W' : WX), Takes (blkX X s H sc (compEnvC sc cl C X.env) fp xe) W' → PE (blkX X s H sc (compEnvC sc cl C X.env) fp xe) elt (te W'))
    (hs : ∀ x, foldedSetIterable iter X.env x = pure x) (h : tLc wi g tt (te fun cls d _ H' => W cls d σ H') (own.map (·.2)) σ H Q)
    (hR : ∀ D C cl s' m H', Inv X pins σ H' s' → Q (.ref D) H' → s'.heap.Ns C m → FpOk X pins H' C → compEnds (model X.prog X.w) X.A X.xe use Qf (.ref D) (compEnvC sc cl C X.env) (.ok .next) s') :
    wpAny (model X.prog X.w) X.A (comprehension (.ListComp elt [⟨tg, iter, ifs, 0⟩] sc pos) sc X.env pos' (newList []) false (eval iter X.env) use) Qf X.xe s := by
  have capt : ∀ y ∈ sc.names, y.2 = .free → ∃ c, X.env.cells.lookup y.1 = some c := fun y hy e => (ok.free y hy e).elim (fun k => J.ok.has _ (.inl k)) fun k => J.ok.has _ (.inr k)
  have nms : ∀ y ∈ sc.names, y.2 = .local → sc.names.lookup y.1 = some .local := fun y hy e => by rw [ok.uniq y hy, e]
  refine comprehension_at (use := use) rfl hs (closure_ok capt) ok.kind nms (thn (hi.run pins s σ H _ J h) fun xv s1 hx => thn hx fun itv s2 h2 => ?_)
  obtain ⟨it, fp, tn, Jt, H2, rfl, J2, T, st2, f2, q⟩ := h2
  refine wpAny_newObj_type (newEnv_comp ?_) (by show 0 ≤ sizeLine; decide)
  obtain ⟨D, hD⟩ : ∃ D, D = s2.heap.objs.size := ⟨_, rfl⟩
  rw [← hD]
  have nD : H2 D = none := J2.hok.fresh (Nat.le_of_eq hD.symm)
  obtain ⟨Wt, ⟨m0, w0⟩, turn⟩ := q D nD
  obtain ⟨s3, hs3⟩ : ∃ s3 : Shared, s3 = { s2 with heap := s2.heap.push { cls := .type "list", data := .seq ([] : List Value).toArray } } := ⟨_, rfl⟩
  have hp3 : s3.heap = s2.heap.push { cls := .type "list", data := .seq ([] : List Value).toArray } := by rw [hs3]
  obtain ⟨H3, hH3⟩ : ∃ H3, H3 = L2.upd H2 D (.lst []) := ⟨_, rfl⟩
  rw [← hH3] at w0
  have J3 : Inv X pins σ H3 s3 := by
    subst hs3 hH3
    refine J2.laid (t' := s2.toks) (fun b o e => Heap.get?_push_of_some _ e) (Nat.le_of_eq hD.symm) ⟨Nat.zero_le _, [], 0, .nil, ?_⟩
    subst hD
    exact Heap.get?_push_size _ rfl
  have f3 : ∀ b ∈ fp, FpOk X pins H3 b ∧ b < s3.heap.objs.size := fun b hb => by
    obtain ⟨o, e, _⟩ := T.obj _ _ st2 b hb
    have lt := Heap.lt_size e
    refine ⟨⟨?_, (f2 b hb).2⟩, by rw [hp3, Heap.size_push]; exact Nat.lt_succ_of_lt lt⟩
    rw [hH3, upd_ne (by rw [hD]; exact Nat.ne_of_lt lt)]
    exact (f2 b hb).1
  have st3 : tn 0 s3.heap := T.keep _ _ _ st2 fun b _ o e => by rw [hp3]; exact Heap.get?_push_of_some _ e
  have J4 := block_start J3 ok hN f3
  obtain ⟨cl, hcl⟩ : ∃ cl, cl = cellsFrom (s3.heap.objs.size + 1) sc.names (cloFrom X.env.cells sc.names []) := ⟨_, rfl⟩
  obtain ⟨ce, hce⟩ : ∃ ce, ce = compEnvC sc cl s3.heap.objs.size X.env := ⟨_, rfl⟩
  have pg := hg s3 H3 s3.heap.objs.size cl fp
  have pt := ht s3 H3 s3.heap.objs.size cl fp
  have pe := he s3 H3 s3.heap.objs.size cl fp
  have R4 := hR D s3.heap.objs.size cl
  have cL : ce.locals = s3.heap.objs.size := by subst hce; rfl
  have cF : ce.frame = X.env.frame := by subst hce; rfl
  rw [← hcl, ← hce] at J4
  rw [← hce] at pg pt pe R4
  obtain ⟨s4, hs4⟩ : ∃ s4 : Shared, s4 = { s3 with heap := pushCells (s3.heap.push { cls := .type "dict", data := .dict #[] }) sc.names } := ⟨_, rfl⟩
  have st4 : tn 0 s4.heap := T.keep _ _ _ st3 fun b _ o e => by rw [hs4]; exact pushCells_keeps _ _ _ _ (Heap.get?_push_of_some _ e)
  rw [← hs4] at J4
  have nfp : ∀ b ∈ fp, H3 b = none := fun b hb => (f3 b hb).1.1
  have stat : ∀ {σ' : L2.St} {H' : Hp} {s' : Shared}, Inv (X.blk s3 H3 sc ce fp) [] σ' H' s' → (∀ b ∈ fp, H' b = none) → ∀ b ∈ fp, FpOk (X.blk s3 H3 sc ce fp) [] H' b := fun {σ' H' s'} I n b hb =>
    ⟨n b hb, (I.ok.exf b hb).1, I.ok.exfs b hb, .inl hb, fun x c e => (I.ok.exf b hb).2 x c e, fun p hp => by simp at hp⟩
  have fails : ∀ e s', notedBy (model X.prog X.w) X.A ce (CompFails (model X.prog X.w) X.A X.xe ce) e s' → notedBy (model X.prog X.w) X.A ce (fun e s' => compEnds (model X.prog X.w) X.A X.xe use Qf (.ref D) ce (.error e) s') e s' := fun e s' z => by
    cases use <;> exact z
  have loop : codeAny (model X.prog X.w) X.A (.compLoop (.ListComp elt [⟨tg, iter, ifs, 0⟩] sc pos) 0 (.ref it) (.ref D) ce) (compEnds (model X.prog X.w) X.A X.xe use Qf (.ref D) ce) s4 := by
    refine compLoop_any (fun n s' => ∃ i H', Inv (X.blk s3 H3 sc ce fp) [] (wipe σ (own.map (·.2))) H' s' ∧ tn i s'.heap ∧ (∀ b ∈ fp, H' b = none) ∧ Wt i n H') ?_ m0 ⟨0, H3, J4, st4, nfp, w0⟩
    rintro n s5 ⟨i, H5, J5, st5, n5, w5⟩
    rcases turn i n H5 w5 with ⟨stop, qq⟩ | ⟨go, Nx, hNx, step⟩
    · refine thnF (T.done (X.blk s3 H3 sc ce fp) rfl rfl rfl hc i [] s5 _ H5 (fun _ _ => False) J5 (stat J5 n5) st5 stop) fun r s6 ⟨hr, J6⟩ => ?_
      subst hr
      have J7 : Inv X pins σ H5 s6 := J3.call' (ch := fp) J6.os J6.base J6.hok J6.bare fun b hb => ⟨(f3 b hb).1.2.2.2.1, (f3 b hb).1.2.1, (f3 b hb).1.2.2.2.2.1, (f3 b hb).1.2.2.2.2.2⟩
      have nC : H5 s3.heap.objs.size = none := by rw [← cL]; exact J6.free
      obtain ⟨m, hn, _⟩ := J6.loc
      have hn : s6.heap.Ns s3.heap.objs.size m := by rw [← cL]; exact hn
      exact R4 s6 m H5 J7 qq hn (J3.fpOk (Nat.le_refl _) nC)
    · refine thnF (T.item (X.blk s3 H3 sc ce fp) rfl rfl rfl hc i [] s5 _ H5 (fun _ _ => False) J5 (stat J5 n5) st5 go) fun r s6 ⟨u, hr, h6⟩ => ?_
      subst hr
      refine thnF h6 fun _ s7 ⟨x, H7, J7, r7, y7, st7, n7⟩ => ?_
      refine thnF (pg.run _ s7 _ H7 x u _ (J7.pinned (stat J7 n7) (T.obj _ _ st7)) r7 (step x H7 y7)) fun _ s8 ⟨σ8, H8, J8, hw8, q8⟩ => ?_
      refine thnF (pt.run _ s8 σ8 H8 _ J8 q8) fun b s9 ⟨H9, J9, q9⟩ => ?_
      have fin : ∀ {s' : Shared} {H' : Hp}, Inv (X.blk s3 H3 sc ce fp) ([] ++ pinsAt fp s7.heap) σ8 H' s' → Nx H' → ∃ m, m < n ∧ ∃ i H', Inv (X.blk s3 H3 sc ce fp) [] (wipe σ (own.map (·.2))) H' s' ∧ tn i s'.heap ∧ (∀ b ∈ fp, H' b = none) ∧ Wt i m H' := fun {s' H'} I nx => by
        obtain ⟨m', hm, w'⟩ := hNx H' nx
        have same : ∀ b ∈ fp, ∀ o, s7.heap.get? b = some o → s'.heap.get? b = some o ∧ H' b = none := fun b hb o e => by
          have z := I.pin (b, o) (List.mem_append_right _ (List.mem_append_right _ (mem_pinsAt hb e)))
          exact ⟨z.1, z.2.1⟩
        have len8 : (wipe σ (own.map (·.2))).length = σ8.length := by rw [← hw8, wipe_length]
        refine ⟨m', hm, i + 1, H', (I.unpinned (pins := [])).weak len8 (fun j v e => ?_), T.keep _ _ _ st7 fun b hb o e => (same b hb o e).1, fun b hb => ?_, w'⟩
        · rw [← hw8] at e
          exact (wipe_some e).1
        · obtain ⟨o, e, _⟩ := T.obj _ _ st7 b hb
          exact (same b hb o e).2
      cases b with
      | false =>
        simp only [Bool.false_eq_true, if_false] at q9 ⊢
        exact fin J9 q9
      | true =>
        simp only [if_true] at q9 ⊢
        have pe' := pe (notedBy (model X.prog X.w) X.A ce (CompFails (model X.prog X.w) X.A X.xe ce)) (fun cls d _ H' => W cls d σ H') fun u s' x => blk_out hst hfr tk cF cL J3 f3 x
        refine wpAny_mono (pe'.run _ s9 σ8 H9 _ (inv_xe J9) q9) (fun z s10 hz => ?_) fun e s' z => fails e s' z
        obtain ⟨yv, H10, J10, r10, acc, hD10, hz10, nx⟩ := hz
        exact app_ok (X := X.blk s3 H3 sc ce fp) (inv_ex (X := X.blk s3 H3 sc ce fp) J10) hD10 hz10 r10 fun s11 J11 => fin J11 nx
  have all := codeAny_compStart_list (pos := pos) loop (T.self X.A 0 _ _ _ st4 loop)
  subst hs4 hce hcl hs3
  exact all
theorem pe_lcx {elt tg iter : Expr} {ifs : List Expr} {sc : Scope} {own : List (Str × Nat)} {pos : Pos} {wi : TI} {g : TG} {tt : TT} {te : WX → TE}
    (hst : X.stack = X.env :: X.outer) (hfr : X.env.frame = some X.env.locals) (tk : Takes X W) (hc : X.calm = true) (hN : X.N.Nodup) (hi : PI X tg iter wi) (ok : BlkOk X.N X.env.scope sc own)
    (hg : ∀ (s : Shared) (H : Hp) (C : Addr) (cl : List (Str × Addr)) (fp : List Addr), PG (X.blk s H sc (compEnvC sc cl C X.env) fp) tg g)
    (ht : ∀ (s : Shared) (H : Hp) (C : Addr) (cl : List (Str × Addr)) (fp : List Addr), PTs (X.blk s H sc (compEnvC sc cl C X.env) fp) ifs tt)
    (he : ∀ (s : Shared) (H : Hp) (C : Addr) (cl : List (Str × Addr)) (fp : List Addr) (xe : Value → Shared → Prop) (W' : WX), Takes (blkX X s H sc (compEnvC sc cl C X.env) fp xe) W' → PE (blkX X s H sc (compEnvC sc cl C X.env) fp xe) elt (te W'))
    (hs : ∀ x, foldedSetIterable iter X.env x = pure x := by intro _; rfl) :
    PE X (.ListComp elt [⟨tg, iter, ifs, 0⟩] sc pos) (fun σ H Q => tLc wi g tt (te fun cls d _ H' => W cls d σ H') (own.map (·.2)) σ H Q) := by
  refine ⟨fun pins s σ H Q J h => ?_⟩
  rw [eval_ListComp]
  refine lcx_core hst hfr tk hc hN J hi ok hg ht he hs h fun D C cl s' m H' J' q hn f => ⟨m, hn, fun h'' sb => ?_⟩
  obtain ⟨f0, f1, f2, f3, f4, f5⟩ := f
  exact ⟨.ref D, H', J'.turned (t' := s'.toks) (fun b o n e => by rw [sb.2 b n]; exact e) f0 f1 f3 f4 f5, rfl, q⟩
theorem ps_setLcx {i : Nat} {y : Str} {py : Pos} {elt tg iter : Expr} {ifs : List Expr} {sc : Scope} {own : List (Str × Nat)} {pos spos : Pos} {wi : TI} {g : TG} {tt : TT} {te : WX → TE}
    (hst : X.stack = X.env :: X.outer) (hfr : X.env.frame = some X.env.locals) (tk : Takes X W) (hc : X.calm = true) (hN : X.N.Nodup) (hy : X.N[i]? = some y) (hyl : X.env.scope.names.lookup y = some .local)
    (hsw : swapsWith (.ListComp elt [⟨tg, iter, ifs, 0⟩] sc pos) (some (.Name y py)) spos.line X.env = pure true) (hi : PI X tg iter wi) (ok : BlkOk X.N X.env.scope sc own)
    (hg : ∀ (s : Shared) (H : Hp) (C : Addr) (cl : List (Str × Addr)) (fp : List Addr), PG (X.blk s H sc (compEnvC sc cl C X.env) fp) tg g)
    (ht : ∀ (s : Shared) (H : Hp) (C : Addr) (cl : List (Str × Addr)) (fp : List Addr), PTs (X.blk s H sc (compEnvC sc cl C X.env) fp) ifs tt)
    (he : ∀ (s : Shared) (H : Hp) (C : Addr) (cl : List (Str × Addr)) (fp : List Addr) (xe : Value → Shared → Prop) (W' : WX), Takes (blkX X s H sc (compEnvC sc cl C X.env) fp xe) W' → PE (blkX X s H sc (compEnvC sc cl C X.env) fp xe) elt (te W'))
    (hs : ∀ x, foldedSetIterable iter X.env x = pure x := by intro _; rfl) :
    PS X (.Assign [.Name y py] (.ListComp elt [⟨tg, iter, ifs, 0⟩] sc pos) spos) (fun D σ H => tLc wi g tt (te fun cls d _ H' => W cls d σ H') (own.map (·.2)) σ H fun x H1 => gName i x σ H1 D.nx) := by
  refine ⟨fun pins s σ H D J h => ?_⟩
  rw [exec_Assign_Name_used _ _ _ _ hsw]
  refine wpAny_bind (wpAny_standAt (wpAny_bind ?_))
  show wpAny _ X.A (do let _ ← comprehension (.ListComp elt [⟨tg, iter, ifs, 0⟩] sc pos) sc X.env (firstIterPos [⟨tg, iter, ifs, 0⟩] pos) (newList []) false (eval iter X.env) (some (assign (.Name y py) X.env))) _ _ s
  refine wpAny_bind (thn (lcx_core (Qf := fun _ s' => SP X pins D .next s') hst hfr tk hc hN J hi ok hg ht he hs h fun L C cl s' m H' J' q hn f => ?_) fun _ s' hq => wpAny_pure (wpAny_pure hq))
  show wpAny _ _ (assign (.Name y py) X.env (.ref L)) _ _ _
  refine wpAny_assign_Name (store_ok2 (v := V.ref L) J' hN hy (.inl hyl) rfl (fun s2 J2 ⟨a, sb, ha⟩ => ?_) (.inr hyl))
  obtain ⟨f0, f1, f2, f3, f4, f5⟩ := f
  have ne : C ≠ a := by
    rcases ha with z | z
    · subst z; exact f1
    · exact fun e => f4 y a z e.symm
  refine ⟨m, hn.sameBut sb ne, fun h3 sb3 => ?_⟩
  exact ⟨_, H', J2.turned (t' := s2.toks) (fun b o n e => by rw [sb3.2 b n]; exact e) f0 f1 f3 f4 f5, q⟩
end
end PV

namespace PV
open PySem PySem.Spec L2 PyProof.Rows

/-! ### a comprehension whose element may raise: the combinator -/
def lcxLoop (t : TgF) (tt : M Bool) (fe : M P) (vs : List Nat) (π0 : En) : List P → List P → En → Out Rs
  | [], acc, π => .ok (.own (.lst acc)) (restE π0 π vs)
  | p :: ps, acc, π => match t p π with
    | none => .bad
    | some π1 => match tt π1 with
      | .ok false π2 => if chk vs π2 = true then lcxLoop t tt fe vs π0 ps acc (wipeE π2 vs) else .bad
      | .ok true π2 => (match fe π2 with
        | .ok q π3 => if chk vs π3 = true then lcxLoop t tt fe vs π0 ps (acc ++ [q]) (wipeE π3 vs) else .bad
        | .exc C qs π3 => if chk vs π3 = true then .exc C qs (restE π0 (wipeE π3 vs) vs) else .bad
        | .bad => .bad)
      | _ => .bad
def lcxF (fi : M (List P)) (t : TgF) (tt : M Bool) (fe : M P) (vs : List Nat) : M Rs := fun π => (fi π).bind fun ps π1 => if chk vs π1 = true then lcxLoop t tt fe vs π1 ps [] (wipeE π1 vs) else .bad
def Ws.out (w : Ws) (W' : WX) : Ws := ⟨W', w.g, w.mono⟩
def LcxInv (c : Ctx) (w : Ws) (t : TgF) (tt : M Bool) (fe : M P) (vs : List Nat) (F1 : Hp) (π1 : En) (σ : L2.St) (H1 : Hp) (ps : List P) (K : Rs → En → Hp → Hp → Prop) (D : Addr) (i : Nat) (H' : Hp) : Prop :=
  ∃ F' π' acc va, Le F1 F' ∧ w.g F' ∧ SR c F' π' (wipe σ vs) H' ∧ H' D = some (.lst va) ∧ Rps c F' acc va ∧ acc.length ≤ i ∧ F' D = none ∧ ¬ Own π' (wipe σ vs) D ∧ Tr F1 (wipeE π1 vs) (wipe σ vs) H1 F' π' (wipe σ vs) H' ∧
    Po c w.W F1 π1 σ H1 (lcxLoop t tt fe vs π1 (ps.drop i) acc π') K
section
variable {X : Cx} {c : Ctx} {w : Ws} {elt tg iter : Expr} {ifs : List Expr} {scope : Scope} {own : List (Str × Nat)} {pos : Pos} {fi : M (List P)} {t : TgF} {ft : M Bool} {fe : M P} {sl : List Nat}
theorem lcx_weak (hsl : ∀ j ∈ sl, j ∈ own.map (·.2)) : ∀ σ H Q, tE c w (lcxF fi t ft fe (own.map (·.2))) σ H Q →
    tLc (tI c w fi) (tG c w.blk sl t) (tT c w.blk ft) (tV c (w.out fun cls d _ H' => w.W cls d σ H') fe) (own.map (·.2)) σ H Q := fun σ H Q ⟨F, π, gg, s, po⟩ => by
  generalize own.map (·.2) = vs at *
  refine ⟨F, π, gg, s, (Po.split po).mono fun ps π1 F1 H1 t1 s1 p1 J wk hlen D hD => ?_⟩
  by_cases hc : chk vs π1 = true
  case neg => rw [if_neg hc] at p1; exact p1.elim
  rw [if_pos hc] at p1
  have g1 := w.mono _ _ t1.le gg
  have gD : Gr F1 H1 F1 (L2.upd H1 D (.lst [])) := gr_lst s1.le hD
  obtain ⟨sw, tw⟩ := wipe_ok s1 vs fun v hv => chk_at hc hv
  refine ⟨fun i m H' => m = ps.length - i ∧ i ≤ ps.length ∧ LcxInv c w t ft fe vs F1 π1 σ H1 ps (fun r π' F' H' => ∀ v, RR c π H F' π' σ H' r v → Q v H') D i H',
    ⟨_, rfl, Nat.zero_le _, F1, wipeE π1 vs, [], [], Le.refl _, g1, gD.sr sw, upd_same, rps_nil, Nat.le_refl _, s1.le.gone hD, fun z => ?_, gD.tr, p1⟩, ?_⟩
  · obtain ⟨u, hu⟩ := own_some sw z
    rw [hD] at hu; cases hu
  rintro i m H' ⟨rfl, hi, F', π', acc, va, l1, g', s', hDa, ra, hal, hFD, hnD, t', po'⟩
  by_cases hlt : i < ps.length
  · refine .inr ⟨wk.go i H' (l1.trans s'.le) hlt, fun H2 => (ps.length - (i + 1)) = ps.length - (i + 1) ∧ i + 1 ≤ ps.length ∧ LcxInv c w t ft fe vs F1 π1 σ H1 ps (fun r π' F' H' => ∀ v, RR c π H F' π' σ H' r v → Q v H') D (i + 1) H2,
      fun H2 q => ⟨ps.length - (i + 1), by omega, q⟩, fun x H2 y => ?_⟩
    obtain ⟨F2, gr, rx⟩ := wk.yld i ps[i] F' H' x H2 l1 s'.le (List.getElem?_eq_getElem hlt) y
    rw [List.drop_eq_getElem_cons hlt] at po'
    have s2 := gr.sr s'
    have t2 := t'.trans (gr.tr (π := π') (σ := wipe σ vs))
    have hD2 : H2 D = some (.lst va) := gr.keep D _ hDa
    refine ⟨F2, π', ps[i], w.mono _ _ gr.le g', s2, rx, ?_⟩
    unfold lcxLoop at po'
    cases e1 : t ps[i] π' with
    | none => simp only [e1] at po'; exact po'.elim
    | some π2 =>
      simp only [e1] at po'
      intro σ3 s3 t3 k3 n3
      have hw : wipe σ3 vs = wipe σ vs := wipe_same (fun j z => k3 j fun q => z (hsl j q)) (by rw [n3, wipe_length])
      have tb : Tr F' π' (wipe σ vs) H' F2 π2 σ3 H2 := (gr.tr (π := π') (σ := wipe σ vs)).trans t3
      refine ⟨hw, F2, π2, w.mono _ _ gr.le g', s3, ?_⟩
      have fin : ∀ {π4 : En} {F4 H4 : Hp}, chk vs π4 = true → Tr F2 π2 σ3 H2 F4 π4 σ3 H4 → SR c F4 π4 σ3 H4 → SR c F4 (wipeE π4 vs) (wipe σ vs) H4 ∧ Tr F1 (wipeE π1 vs) (wipe σ vs) H1 F4 (wipeE π4 vs) (wipe σ vs) H4 ∧ H4 D = some (.lst va) ∧ F4 D = none ∧ ¬ Own (wipeE π4 vs) (wipe σ vs) D := fun {π4 F4 H4} hc4 t4 s4 => by
        obtain ⟨s6, t6⟩ := wipe_ok s4 vs fun v hv => chk_at hc4 hv
        have tl := t6 _ _ _ _ (tb.trans t4)
        rw [hw] at s6 tl
        refine ⟨s6, t'.trans tl, tl.keep D _ hDa hnD, ?_, fun z => ?_⟩
        · cases q : F4 D with
          | none => rfl
          | some x =>
            rcases tl.new D (by rw [q]; exact fun z => nomatch z) with z | z | z
            · exact absurd hFD z
            · rw [hDa] at z; cases z
            · exact absurd z hnD
        · rcases tl.own D z with q | q
          · rw [hDa] at q; cases q
          · exact hnD q
      cases e2 : ft π2 with
      | bad => simp only [e2] at po'; exact po'.elim
      | exc C qs π4 => simp only [e2] at po'; exact po'.elim
      | ok b π4 =>
        intro F4 H4 t4 s4
        have l4 : Le F1 F4 := (l1.trans gr.le).trans t4.le
        have g4 := w.mono _ _ (gr.le.trans t4.le) g'
        cases b with
        | false =>
          simp only [e2] at po'
          by_cases hc4 : chk vs π4 = true
          case neg => rw [if_neg hc4] at po'; exact po'.elim
          rw [if_pos hc4] at po'
          obtain ⟨s6, tl, d1, d2, d3⟩ := fin hc4 t4 s4
          refine iteF ?_
          exact ⟨rfl, hlt, F4, _, acc, va, l4, g4, s6, d1, Rps.mono (gr.le.trans t4.le) _ _ ra, by omega, d2, d3, tl, po'⟩
        | true =>
          simp only [e2] at po'
          refine iteT ?_
          refine ⟨F4, π4, g4, s4, ?_⟩
          cases e3 : fe π4 with
          | bad => simp only [e3] at po'; exact po'.elim
          | exc C qs π5 =>
            simp only [e3] at po'
            by_cases hc5 : chk vs π5 = true
            case neg => rw [if_neg hc5] at po'; exact po'.elim
            rw [if_pos hc5] at po'
            intro F5 H5 d t5 s5 xd
            obtain ⟨s6, tl, d1, d2, d3⟩ := fin hc5 (t4.trans t5) s5
            obtain ⟨s7, t7, _⟩ := rest_ok s1 hc s6 tl
            exact po' F5 H5 d t7 s7 xd
          | ok q π5 =>
            simp only [e3] at po'
            by_cases hc5 : chk vs π5 = true
            case neg => rw [if_neg hc5] at po'; exact po'.elim
            rw [if_pos hc5] at po'
            intro F5 H5 t5 s5 y hy
            obtain ⟨s6, tl, d1, d2, d3⟩ := fin hc5 (t4.trans t5) s5
            have hva : va.length = acc.length := (rps_len ra).symm
            refine ⟨va, d1, by omega, rfl, hlt, F5, _, acc ++ [q], va ++ [y], l4.trans t5.le, w.mono _ _ t5.le g4, s6.other d2 d3, upd_same, rps_append (Rps.mono ((gr.le.trans t4.le).trans t5.le) _ _ ra) (rps_cons hy rps_nil), by simp; omega, d2, d3, tl.other hD, po'⟩
  · have e : i = ps.length := by omega
    subst e
    rw [List.drop_length] at po'
    obtain ⟨s5, t5, ow5⟩ := rest_ok s1 hc s' t'
    exact .inl ⟨wk.stop H' (l1.trans s'.le), po' F' H' t5 s5 _ ⟨D, rfl, hFD, fun z => hnD (ow5 D z), ⟨va, hDa, ra⟩, Fr0.back t1 (.inl hD)⟩⟩
theorem p_lcx (hsl : ∀ j ∈ sl, j ∈ own.map (·.2)) (hst : X.stack = X.env :: X.outer) (hfr : X.env.frame = some X.env.locals) (tk : Takes X w.W) (hc : X.calm = true) (hN : X.N.Nodup) (hi : PI X tg iter (tI c w fi)) (ok : BlkOk X.N X.env.scope scope own)
    (hg : ∀ (s : Shared) (H : Hp) (C : Addr) (cl : List (Str × Addr)) (fp : List Addr), PG (X.blk s H scope (compEnvC scope cl C X.env) fp) tg (tG c w.blk sl t)) (ht : ∀ (s : Shared) (H : Hp) (C : Addr) (cl : List (Str × Addr)) (fp : List Addr), PTs (X.blk s H scope (compEnvC scope cl C X.env) fp) ifs (tT c w.blk ft))
    (he : ∀ (s : Shared) (H : Hp) (C : Addr) (cl : List (Str × Addr)) (fp : List Addr) (xe : Value → Shared → Prop) (W' : WX), Takes (blkX X s H scope (compEnvC scope cl C X.env) fp xe) W' → PE (blkX X s H scope (compEnvC scope cl C X.env) fp xe) elt (tV c (w.out W') fe))
    (hs : ∀ x, foldedSetIterable iter X.env x = pure x := by intro _; rfl) :
    PE X (.ListComp elt [⟨tg, iter, ifs, 0⟩] scope pos) (tE c w (lcxF fi t ft fe (own.map (·.2)))) := pe_weak (pe_lcx (te := fun W' => tV c (w.out W') fe) hst hfr tk hc hN hi ok hg ht he hs) (lcx_weak hsl)
/-- y = [..] on one line -/
theorem s_setLcx {i : Nat} {y : Str} {py spos : Pos} (hsl : ∀ j ∈ sl, j ∈ own.map (·.2)) (hst : X.stack = X.env :: X.outer) (hfr : X.env.frame = some X.env.locals) (tk : Takes X w.W) (hc : X.calm = true) (hN : X.N.Nodup) (hy : X.N[i]? = some y) (hyl : X.env.scope.names.lookup y = some .local)
    (hsw : swapsWith (.ListComp elt [⟨tg, iter, ifs, 0⟩] scope pos) (some (.Name y py)) spos.line X.env = pure true) (hi : PI X tg iter (tI c w fi)) (ok : BlkOk X.N X.env.scope scope own)
    (hg : ∀ (s : Shared) (H : Hp) (C : Addr) (cl : List (Str × Addr)) (fp : List Addr), PG (X.blk s H scope (compEnvC scope cl C X.env) fp) tg (tG c w.blk sl t)) (ht : ∀ (s : Shared) (H : Hp) (C : Addr) (cl : List (Str × Addr)) (fp : List Addr), PTs (X.blk s H scope (compEnvC scope cl C X.env) fp) ifs (tT c w.blk ft))
    (he : ∀ (s : Shared) (H : Hp) (C : Addr) (cl : List (Str × Addr)) (fp : List Addr) (xe : Value → Shared → Prop) (W' : WX), Takes (blkX X s H scope (compEnvC scope cl C X.env) fp xe) W' → PE (blkX X s H scope (compEnvC scope cl C X.env) fp xe) elt (tV c (w.out W') fe))
    (hs : ∀ x, foldedSetIterable iter X.env x = pure x := by intro _; rfl) :
    PS X (.Assign [.Name y py] (.ListComp elt [⟨tg, iter, ifs, 0⟩] scope pos) spos) (tS c w (setF i (lcxF fi t ft fe (own.map (·.2))))) :=
  ps_weak (ps_setLcx (i := i) (te := fun W' => tV c (w.out W') fe) hst hfr tk hc hN hy hyl hsw hi ok hg ht he hs) fun D σ H ⟨F, π, gg, s, po⟩ => by
    refine lcx_weak hsl σ H _ ⟨F, π, gg, s, ?_⟩
    unfold setF at po
    cases e0 : lcxF fi t ft fe (own.map (·.2)) π with
    | bad => rw [e0] at po; exact po
    | exc C ps π1 => rw [e0] at po; exact fun F' H' d t s => po F' σ H' d t s
    | ok r π1 =>
      rw [e0] at po
      intro F1 H1 t s1 v hr
      obtain ⟨π', k⟩ := set_post s1 hr t po
      exact k
end
end PV

set_option maxHeartbeats 4000000
namespace PV
open PySem PySem.Spec L2 PyProof.Rows
/-! ### dicts with tuples as keys -/
def mergeKT (kvs more : List (List Key × V)) : List (List Key × V) := more.foldl (fun acc kv => putK acc kv.1 kv.2) kvs
abbrev Dt := List (List Key × P)
def dtK (d : Dt) : List P := d.map fun x => tkeyP x.1
def dtV (d : Dt) : List P := d.map fun x => x.2
/-- the dict as a value, as an object of its own -/
def tdP (d : Dt) : P := .dct true (dtK d) (dtV d)
def tdO (d : Dt) : O := .dct true (dtK d) (dtV d)
@[simp] theorem tO_P {d : Dt} : (tdO d).toP = tdP d := rfl
def tksOf : List P → Option (List (List Key))
  | [] => some []
  | .tup ps :: qs => (ksOf ps).bind fun k => (tksOf qs).map (k :: ·)
  | _ => none
theorem tksOf_map : ∀ ks : List (List Key), tksOf (ks.map tkeyP) = some ks
  | [] => rfl
  | k :: ks => by
    show (ksOf (k.map keyP)).bind (fun k => (tksOf (ks.map tkeyP)).map (k :: ·)) = _
    rw [ksOf_map k, tksOf_map ks]; rfl
def kvT : P → Option Dt
  | .dct true ks vs => (tksOf ks).map fun k => k.zip vs
  | _ => none
@[simp] theorem kvT_d (d : Dt) : kvT (tdP d) = some d := by
  show (tksOf (dtK d)).map (fun k => k.zip (dtV d)) = _
  rw [show dtK d = (d.map (·.1)).map tkeyP by unfold dtK; rw [List.map_map]; rfl, tksOf_map]
  show some ((d.map (·.1)).zip (d.map (·.2))) = _
  congr 1
  induction d with
  | nil => rfl
  | cons x d ih => rw [List.map_cons, List.map_cons, List.zip_cons_cons, ih]
def tkeyQ : P → Option (List Key)
  | .tup ps => ksOf ps
  | _ => none
theorem ksOf_eq : ∀ {ps : List P} {k : List Key}, ksOf ps = some k → ps = k.map keyP
  | [], k, h => by cases h; rfl
  | p :: ps, k, h => by
    cases p with
    | int i =>
      have h' : (ksOf ps).map (Sum.inl i :: ·) = some k := h
      cases e : ksOf ps with
      | none => rw [e] at h'; cases h'
      | some r => rw [e] at h'; cases h'; rw [ksOf_eq e]; rfl
    | str x =>
      have h' : (ksOf ps).map (Sum.inr x :: ·) = some k := h
      cases e : ksOf ps with
      | none => rw [e] at h'; cases h'
      | some r => rw [e] at h'; cases h'; rw [ksOf_eq e]; rfl
    | _ => cases h
theorem tkeyQ_of {p : P} {k : List Key} (h : tkeyQ p = some k) : p = tkeyP k := by
  cases p with
  | tup ps => rw [ksOf_eq (show ksOf ps = some k from h)]; rfl
  | _ => cases h
@[simp] theorem tkeyQ_k (k : List Key) : tkeyQ (tkeyP k) = some k := ksOf_map k
def getT' (d : Dt) (k : List Key) : Option P := (d.find? fun x => decide (x.1 = k)).map (·.2)
def putT' (d : Dt) (k : List Key) (p : P) : Dt := if (d.any fun x => decide (x.1 = k)) = true then d.map (fun x => if x.1 = k then (x.1, p) else x) else d ++ [(k, p)]
def mergeT' (d e : Dt) : Dt := e.foldl (fun a x => putT' a x.1 x.2) d
/-- the tracked dict kvs stands for d -/
def TR (c : Ctx) (F : Hp) (d : Dt) (kvs : List (List Key × V)) : Prop := d.map (·.1) = kvs.map (·.1) ∧ Rps c F (dtV d) (kvs.map (·.2))
section
variable {c : Ctx} {F H : Hp} {d e : Dt} {kvs more : List (List Key × V)} {k : List Key} {p : P} {v : V}
theorem TR.nil : TR c F [] [] := ⟨rfl, rps_nil⟩
theorem TR.cons {x : List Key × P} {y : List Key × V} (h : x.1 = y.1) (r : Rp c F x.2 y.2) (t : TR c F d kvs) : TR c F (x :: d) (y :: kvs) := ⟨by rw [List.map_cons, List.map_cons, h, t.1], rps_cons r t.2⟩
theorem TR.inv {x : List Key × P} (h : TR c F (x :: d) kvs) : ∃ y r, kvs = y :: r ∧ x.1 = y.1 ∧ Rp c F x.2 y.2 ∧ TR c F d r := by
  obtain ⟨h1, h2⟩ := h
  cases kvs with
  | nil => cases h1
  | cons y r =>
    rw [List.map_cons, List.map_cons] at h1
    obtain ⟨v, t, e1, e2, e3⟩ := rps_inv (show Rps c F (x.2 :: dtV d) (y.2 :: r.map (·.2)) from h2)
    cases e1
    exact ⟨y, r, rfl, (List.cons.inj h1).1, e2, (List.cons.inj h1).2, e3⟩
theorem TR.ninv (h : TR c F [] kvs) : kvs = [] := by
  cases kvs with
  | nil => rfl
  | cons y r => cases h.1
theorem TR.len (h : TR c F d kvs) : d.length = kvs.length := by
  have := congrArg List.length h.1
  simpa using this
theorem TR.mono (h : TR c F d kvs) (l : Le F H) : TR c H d kvs := ⟨h.1, Rps.mono l _ _ h.2⟩
theorem TR.get (k : List Key) : ∀ {d : Dt} {kvs : List (List Key × V)}, TR c F d kvs → (∀ p, getT' d k = some p → ∃ v, valV kvs k = some v ∧ Rp c F p v) ∧ (getT' d k = none → valV kvs k = none)
  | [], kvs, h => by
    rw [h.ninv]
    exact ⟨fun p e => by simp [getT'] at e, fun _ => rfl⟩
  | x :: d, kvs, h => by
    obtain ⟨y, r, rfl, e1, e2, e3⟩ := h.inv
    have ih := TR.get k e3
    by_cases z : x.1 = k
    · rw [valV_pos (e1 ▸ z), show getT' (x :: d) k = some x.2 by simp [getT', z]]
      exact ⟨fun p e => ⟨_, rfl, by cases e; exact e2⟩, fun e => by cases e⟩
    · rw [valV_neg (e1 ▸ z), show getT' (x :: d) k = getT' d k by simp [getT', z]]
      exact ih
theorem TR.any : ∀ {d : Dt} {kvs : List (List Key × V)}, TR c F d kvs → (d.any fun x => decide (x.1 = k)) = kvs.any fun x => decide (x.1 = k)
  | [], kvs, h => by rw [h.ninv]; rfl
  | x :: d, kvs, h => by
    obtain ⟨y, r, rfl, e1, e2, e3⟩ := h.inv
    rw [List.any_cons, List.any_cons, TR.any e3, e1]
theorem TR.app : ∀ {d : Dt} {kvs : List (List Key × V)}, TR c F d kvs → Rp c F p v → TR c F (d ++ [(k, p)]) (kvs ++ [(k, v)])
  | [], kvs, h, q => by
    rw [h.ninv]
    exact TR.cons rfl q .nil
  | x :: d, kvs, h, q => by
    obtain ⟨y, r, rfl, e1, e2, e3⟩ := h.inv
    exact TR.cons e1 e2 (TR.app e3 q)
theorem TR.rep : ∀ {d : Dt} {kvs : List (List Key × V)}, TR c F d kvs → Rp c F p v → TR c F (d.map fun x => if x.1 = k then (x.1, p) else x) (kvs.map fun x => if x.1 = k then (x.1, v) else x)
  | [], kvs, h, q => by
    rw [h.ninv]
    exact .nil
  | x :: d, kvs, h, q => by
    obtain ⟨y, r, rfl, e1, e2, e3⟩ := h.inv
    rw [List.map_cons, List.map_cons]
    refine TR.cons ?_ ?_ (TR.rep e3 q)
    · rw [e1]; split <;> first | rfl | exact e1
    · rw [e1]; split <;> first | exact q | exact e2
theorem TR.put (h : TR c F d kvs) (q : Rp c F p v) : TR c F (putT' d k p) (putK kvs k v) := by
  unfold putT' putK
  rw [h.any]
  split
  · exact h.rep q
  · exact h.app q
theorem TR.merge : ∀ {e : Dt} {more : List (List Key × V)} {d : Dt} {kvs : List (List Key × V)}, TR c F e more → TR c F d kvs → TR c F (mergeT' d e) (mergeKT kvs more)
  | [], more, d, kvs, h, q => by
    rw [h.ninv]
    exact q
  | x :: e, more, d, kvs, h, q => by
    obtain ⟨y, r, rfl, e1, e2, e3⟩ := h.inv
    have q2 : TR c F (putT' d x.1 x.2) (putK kvs y.1 y.2) := by rw [e1]; exact q.put e2
    show TR c F (mergeT' (putT' d x.1 x.2) e) (mergeKT (putK kvs y.1 y.2) r)
    exact TR.merge e3 q2
theorem putKT_nodup {kvs : List (List Key × V)} {k : List Key} {v : V} (h : (kvs.map (·.1)).Nodup) : ((putK kvs k v).map (·.1)).Nodup := by
  unfold putK
  split
  · have e : (kvs.map fun x => if x.1 = k then (x.1, v) else x).map (·.1) = kvs.map (·.1) := by
      rw [List.map_map]
      refine List.map_congr_left fun x _ => ?_
      show (if x.1 = k then (x.1, v) else x).1 = x.1
      split <;> rfl
    rw [e]; exact h
  · rename_i z
    rw [List.map_append, List.nodup_append]
    refine ⟨h, by simp, fun x hx y hy e => z ?_⟩
    rw [List.map_singleton, List.mem_singleton] at hy
    obtain ⟨q, hq, rfl⟩ := List.mem_map.mp hx
    rw [List.any_eq_true]
    exact ⟨q, hq, decide_eq_true (e.trans hy)⟩
theorem mergeKT_nodup : ∀ {more kvs : List (List Key × V)}, (kvs.map (·.1)).Nodup → ((mergeKT kvs more).map (·.1)).Nodup
  | [], _, h => h
  | x :: more, kvs, h => mergeKT_nodup (more := more) (putKT_nodup h)
theorem putT_len {d : Dt} {k : List Key} {p : P} : (putT' d k p).length ≤ d.length + 1 := by
  unfold putT'
  split
  · rw [List.length_map]; omega
  · simp
/-- what a dict value is in the heap -/
theorem rp_tdct (h : kvT p = some d) (r : Rp c H p v) : ∃ a kvs, v = .ref a ∧ Rd H a (.dT kvs) ∧ TR c H d kvs ∧ (kvs.map (·.1)).Nodup := by
  cases p with
  | dct t ks ws =>
    cases t with
    | false => cases h
    | true =>
      unfold Rp at r
      obtain ⟨a, vs, rfl, r1, q⟩ := r
      obtain ⟨kvs, q1, q2, q3, q4⟩ := q
      have h' : (tksOf ks).map (fun k => k.zip ws) = some d := h
      have e1 : tksOf ks = some (kvs.map (·.1)) := by
        rw [q2, show kvs.map (fun q => tkeyP q.1) = (kvs.map (·.1)).map tkeyP by rw [List.map_map]; rfl, tksOf_map]
      rw [e1] at h'
      cases h'
      have hl := rps_len r1
      rw [q3, List.length_map] at hl
      refine ⟨a, kvs, rfl, q1, ⟨?_, ?_⟩, q4⟩
      · rw [List.map_fst_zip (by simp [hl])]
      · unfold dtV
        rw [show (((kvs.map (·.1)).zip ws).map fun x => x.2) = ws from List.map_snd_zip (by simp [hl]), ← q3]
        exact r1
  | _ => cases h
theorem mk_tdct {a : Addr} (h : Rd H a (.dT kvs)) (r : TR c H d kvs) (hn : (kvs.map (·.1)).Nodup) : Rp c H (tdP d) (.ref a) := by
  unfold tdP Rp
  refine ⟨a, kvs.map (·.2), rfl, r.2, kvs, h, ?_, rfl, hn⟩
  unfold dtK
  rw [show d.map (fun x => tkeyP x.1) = (d.map (·.1)).map tkeyP by rw [List.map_map]; rfl, r.1, List.map_map]; rfl
theorem ow_tdct {a : Addr} {ks ws : List P} (h : kvT (.dct true ks ws) = some d) (r : OwR c F H (.dct true ks ws) a) : ∃ kvs, H a = some (.dT kvs) ∧ TR c F d kvs ∧ (kvs.map (·.1)).Nodup := by
  obtain ⟨vs, r1, q⟩ := r
  obtain ⟨kvs, q1, q2, q3, q4⟩ := q
  have h' : (tksOf ks).map (fun k => k.zip ws) = some d := h
  have e1 : tksOf ks = some (kvs.map (·.1)) := by
    rw [q2, show kvs.map (fun q => tkeyP q.1) = (kvs.map (·.1)).map tkeyP by rw [List.map_map]; rfl, tksOf_map]
  rw [e1] at h'
  cases h'
  have hl := rps_len r1
  rw [q3, List.length_map] at hl
  refine ⟨kvs, q1, ⟨?_, ?_⟩, q4⟩
  · rw [List.map_fst_zip (by simp [hl])]
  · unfold dtV
    rw [show (((kvs.map (·.1)).zip ws).map fun x => x.2) = ws from List.map_snd_zip (by simp [hl]), ← q3]
    exact r1
theorem mk_town {a : Addr} (h : H a = some (.dT kvs)) (r : TR c F d kvs) (hn : (kvs.map (·.1)).Nodup) : OwR c F H (tdO d) a := by
  refine ⟨kvs.map (·.2), r.2, kvs, h, ?_, rfl, hn⟩
  unfold dtK
  rw [show d.map (fun x => tkeyP x.1) = (d.map (·.1)).map tkeyP by rw [List.map_map]; rfl, r.1, List.map_map]; rfl
theorem Rb.tdct (l : Le F H) (h : kvT p = some d) (r : Rb c F H p v) : ∃ a kvs, v = .ref a ∧ Rd H a (.dT kvs) ∧ TR c F d kvs ∧ (kvs.map (·.1)).Nodup := by
  rcases r with r | ⟨a, o, e, h1, h2⟩
  · obtain ⟨a, kvs, e, q1, q2, q3⟩ := rp_tdct h r
    exact ⟨a, kvs, e, l.rd q1, q2, q3⟩
  · subst e
    cases o with
    | dct t ks ws =>
      subst h2
      cases t with
      | false => cases h
      | true =>
        obtain ⟨kvs, q1, q2, q3⟩ := ow_tdct h h1
        exact ⟨a, kvs, rfl, .of q1, q2, q3⟩
    | lst ps => subst h2; cases h
    | obj C ps => subst h2; cases h
theorem Rb.tkey {k : List Key} (hs : c.st = true) (l : Le F H) (h : tkeyQ p = some k) (r : Rb c F H p v) : ∃ b, v = .ref b ∧ H b = some (.tup (k.map kV)) := by
  cases p with
  | tup ps =>
    have e := ksOf_eq (show ksOf ps = some k from h)
    subst e
    rcases r with r | ⟨_, o, _, _, z⟩
    · obtain ⟨a, vs, e1, q1, q2⟩ := rp_tupR r
      have := ks_rps (ksOf_map k) q2
      subst this
      exact ⟨a, e1, l.tup (q1.st hs)⟩
    · cases o <;> cases z
  | _ => cases h
end
/-! d[k], k in d -/
def ixTP (p q : P) : Option Rv := match kvT p, tkeyQ q with
  | some d, some k => (getT' d k).map .val
  | _, _ => none
def inTP (b : Bool) (q p : P) : Option Rv := match kvT p, tkeyQ q with
  | some d, some k => some (.val (.bl (if b = true then !(getT' d k).isSome else (getT' d k).isSome)))
  | _, _ => none
section
variable {X : Cx} {c : Ctx} {w : Wi} {a b : Expr} {f g h : M Rs} {pos apos cpos : Pos}
theorem v_ixT (hs : c.st = true) : OpV c rGetD ixTP := by
  intro F H p q x y res Q l h1 h2 e k
  unfold ixTP at e
  split at e
  · rename_i d kk e1 e2
    cases e3 : getT' d kk with
    | none => rw [e3] at e; cases e
    | some r =>
      rw [e3] at e
      cases e
      obtain ⟨ad, kvs, rfl, q1, q2, q3⟩ := h1.tdct l e1
      obtain ⟨bb, rfl, hb⟩ := h2.tkey hs l e2
      obtain ⟨v, e4, r1⟩ := (TR.get kk q2).1 r e3
      exact ⟨ad, v, rfl, .inr ⟨kvs, kk, bb, q1, rfl, hb, e4.symm⟩, give l k r1⟩
  · cases e
theorem p_ixT (hst : c.st = true) (hu : X.A.units + 1 < cLine) (ha : PE X a (tE c w f)) (hb : PE X b (tE c w g)) (hs : NoSl b) : PE X (.Subscript a b pos) (tE c w (binF ixTP f g)) :=
  pe_weak (pe_dget hu ha hb hs) fun σ H Q q => bin_weak (v_ixT hst) σ H Q q
theorem v_inT (hs : c.st = true) (bb : Bool) : OpV c (rInD bb) (inTP bb) := by
  intro F H p q x y res Q l h1 h2 e k
  unfold inTP at e
  split at e
  · rename_i d kk e1 e2
    cases e
    obtain ⟨ad, kvs, rfl, q1, q2, q3⟩ := h2.tdct l e1
    obtain ⟨bb', rfl, hb⟩ := h1.tkey hs l e2
    refine ⟨ad, valV kvs kk, rfl, .inr ⟨kvs, kk, bb', q1, rfl, hb, rfl⟩, ?_⟩
    have : (getT' d kk).isSome = (valV kvs kk).isSome := by
      cases e3 : getT' d kk with
      | none => rw [(TR.get kk q2).2 e3]; rfl
      | some r =>
        obtain ⟨v, e4, _⟩ := (TR.get kk q2).1 r e3
        rw [e4]; rfl
    rw [this] at k
    exact give l k mk_bl
  · cases e
/-! d.get(k), d.get(k, x) -/
def isTP (p : P) : Bool := (kvT p).isSome
def get2TP (p q z : P) : Option Rv := match kvT p, tkeyQ q with
  | some d, some k => some (.val ((getT' d k).getD z))
  | _, _ => none
def get1TF (f g : M Rs) : M Rs := fun π => (f π).bind fun r1 π1 => match rdP π1 r1 with
  | some p => if isTP p = true then (g π1).bind fun r2 => op2 (fun p q => get2TP p q .non) r1 r2 else .bad
  | none => .bad
def get2TF (f g : M Rs) (h : M P) : M Rs := fun π => (f π).bind fun r1 π1 => match rdP π1 r1 with
  | some p => if isTP p = true then (g π1).bind fun r2 π2 => (h π2).bind fun z => op2 (fun p q => get2TP p q z) r1 r2 else .bad
  | none => .bad
theorem Rb.isT {F H : Hp} {p : P} {v : V} (l : Le F H) (h : isTP p = true) (r : Rb c F H p v) : ∃ a, v = .ref a ∧ IsD H a := by
  unfold isTP at h
  cases e : kvT p with
  | none => rw [e] at h; cases h
  | some d =>
    obtain ⟨a, kvs, e1, q1, _⟩ := r.tdct l e
    exact ⟨a, e1, .inr ⟨kvs, q1⟩⟩
theorem get2T_post (hs : c.st = true) {F H : Hp} {p q z : P} {x y u : V} {rv : Rv} (l : Le F H) (h1 : Rb c F H p x) (h2 : Rb c F H q y) (h3 : Rp c F z u) (e : get2TP p q z = some rv) :
    ∃ a o, x = .ref a ∧ DGet H a y o ∧ ∃ r, rv = .val r ∧ Rp c F r (o.getD u) := by
  unfold get2TP at e
  split at e
  · rename_i d kk e1 e2
    cases e
    obtain ⟨ad, kvs, rfl, q1, q2, q3⟩ := h1.tdct l e1
    obtain ⟨bb, rfl, hb⟩ := h2.tkey hs l e2
    refine ⟨ad, valV kvs kk, rfl, .inr ⟨kvs, kk, bb, q1, rfl, hb, rfl⟩, _, rfl, ?_⟩
    cases e3 : getT' d kk with
    | none => rw [(TR.get kk q2).2 e3]; exact h3
    | some r =>
      obtain ⟨v, e4, r1⟩ := (TR.get kk q2).1 r e3
      rw [e4]; exact r1
  · cases e
end
end PV

set_option maxHeartbeats 4000000
namespace PV
open PySem PySem.Spec L2 PyProof.Rows
/-! ### dict(pairs) with tuples as keys -/
section
variable {X : Cx} {pins : List (Addr × Obj)} {σ : L2.St} {H : Hp} {s : Shared}
def TPair (K : PySem.W.Frag) (H : Hp) : Addr → (List Key × V) → Prop := fun p kv => ∃ b, SqT K H p [.ref b, kv.2] ∧ H b = some (.tup (kv.1.map kV))
theorem tpairs_of (I : Inv X pins σ H s) : ∀ {ps : List Addr} {kvs : List (List Key × V)}, Paired (TPair X.K H) ps kvs →
    ∃ prs : List (List Key × Addr × Value), KT H kvs prs ∧ prs.length = ps.length ∧ ∀ (j : Nat) (q : List Key × Addr × Value), prs[j]? = some q → ∃ T : Addr, ps[j]? = some T ∧ IsTup s.heap T #[.ref q.2.1, q.2.2]
  | _, _, .nil => ⟨[], .nil, rfl, fun j q e => by simp at e⟩
  | _, _, .cons (a := p) (b := kv) h t => by
    obtain ⟨prs, r, hl, hp⟩ := tpairs_of I t
    obtain ⟨b, hs, hb⟩ := h
    obtain ⟨its, rv, ht, _⟩ := I.tuple hs
    obtain ⟨u, y, ei, ru, ry⟩ := vals2 rv
    subst ei
    obtain rfl : u = Value.ref b := ru
    refine ⟨(kv.1, b, y) :: prs, .cons ⟨rfl, hb, ry⟩ r, by rw [List.length_cons, List.length_cons, hl], fun j q e => ?_⟩
    cases j with
    | zero =>
      have e' : (kv.1, b, y) = q := Option.some.inj e
      subst e'
      exact ⟨p, rfl, ht⟩
    | succ j =>
      obtain ⟨T, e1, e2⟩ := hp j q (by simpa using e)
      exact ⟨T, by simpa using e1, e2⟩
theorem KT.mergeT : ∀ {more : List (List Key × V)} {rs : List (List Key × Addr × Value)} {kvs : List (List Key × V)} {xs : List (List Key × Addr × Value)}, KT H more rs → KT H kvs xs → KT H (mergeKT kvs more) (storedAllH xs rs) := by
  intro more rs kvs xs r
  unfold KT at r
  induction r generalizing kvs xs with
  | nil => intro q; exact q
  | @cons p q ps qs h t ih =>
    intro r0
    have e : KT H (putK kvs p.1 p.2) (storedH xs q.1 q.2.1 q.2.2) := by
      have := r0.put p.1 h.2.1 h.2.2
      rw [← h.1]; exact this
    exact ih e
theorem length_mergeKT : ∀ (more kvs : List (List Key × V)), (mergeKT kvs more).length ≤ kvs.length + more.length
  | [], kvs => by show kvs.length ≤ kvs.length + 0; omega
  | p :: r, kvs => by
    have h1 := length_mergeKT r (putK kvs p.1 p.2)
    have h2 := length_putK kvs p.1 p.2
    show (mergeKT (putK kvs p.1 p.2) r).length ≤ _
    rw [List.length_cons]; omega
theorem key_is_at {l : List (List Key × V)} {m : List (List Key × Addr × Value)} (I : Inv X pins σ H s) (q : KT H l m) : ∀ x ∈ m, (tupleKind (mixKind X.prog X.w)).is s.heap x.1 x.2.1 := by
  unfold KT at q
  induction q with
  | nil => intro x hx; exact nomatch hx
  | @cons p q ps qs hq t ih =>
    intro x hx
    rcases List.mem_cons.mp hx with e | hx
    · subst e
      exact key_of I.hok (by rw [← hq.1]; exact hq.2.1)
    · exact ih x hx
theorem call_dictT (hc : X.calm = true) (hu : X.A.units + 4 < cLine) : CallR X (.type "dict") (fun xs H Q => ∃ (a : Addr) (ps : List Addr) (kvs : List (List Key × V)), xs = [.ref a] ∧ SqL X.K H a (ps.map V.ref) ∧ Paired (TPair X.K H) ps kvs ∧
    ∀ p, H p = none → Q (.ref p) (upd H p (.dT (mergeKT [] kvs)))) := by
  intro pins s σ H xs us Q I r q
  obtain ⟨a, ps, kvs, ex, hq, hp, q⟩ := q
  subst ex
  obtain ⟨u, eu, rx⟩ := vals1 r
  subst eu
  cases rx
  obtain ⟨its, rv, pl, hz⟩ := I.list hq
  have ei := refs_at rv
  subst ei
  rw [List.length_map] at hz
  obtain ⟨prs, rel, hl, hpr⟩ := tpairs_of I hp
  obtain ⟨o, n, ho, hcl, hd, hdat⟩ := pl
  have P := PairArg.list (prog := X.prog) (w := X.w) a (ps.map Value.ref).toArray (fun j => (ps[j]?).getD 0) (prs.map fun q => ((.ref q.2.1 : Value), q.2.2))
  refine PySem.call_dict_pairsH (knd := tupleKind (mixKind X.prog X.w)) (ps := prs) P (I.ok.hd hc) (show X.A.units + 1 + 1 < cLine by omega) ⟨⟨o, n, ho, hcl, hd, hdat⟩, by simp [hl], fun j k v e => ?_⟩ ⟨by simp, fun i key v e => ?_⟩ (fun h' hk x hx => ?_) (by rw [List.length_map, hl]; exact hz) fun h' tk hd' k => ?_
  · rw [List.getElem?_map, Option.map_eq_some_iff] at e
    obtain ⟨q', e1, e2⟩ := e
    cases e2
    obtain ⟨T, e3, e4⟩ := hpr j q' e1
    refine ⟨by simp [e3], ?_⟩
    show PairAt s.heap ((ps[j]?).getD 0) _ _
    rw [e3]
    exact .inl e4
  · have e' : (prs.map fun q => ((.ref q.2.1 : Value), q.2.2))[i]? = some (key, v) := e
    rw [List.getElem?_map, Option.map_eq_some_iff] at e'
    obtain ⟨q', e1, e2⟩ := e'
    cases e2
    exact ⟨q'.1, q'.2.1, e1, rfl⟩
  · exact tupleKind_stays.stays (fun b o vs n e _ => hk b o (Nat.ne_of_lt (Heap.lt_size e)) (fun z => nomatch z) e) (key_is_at I rel x hx)
  · have hm : (s.heap.objs.size == sysModules) = false := beq_eq_false_iff_ne.mpr (Nat.ne_of_gt I.big)
    have hlen : (mergeKT [] kvs).length ≤ sizeLine := by
      refine Nat.le_trans (length_mergeKT kvs []) ?_
      rw [List.length_nil, Nat.zero_add, Paired.length rel, hl]
      exact hz
    have hn := I.hok.fresh (Nat.le_refl s.heap.objs.size)
    obtain ⟨o2, es, ep, d1, d2, d3, d4, d5, d6⟩ := hd'
    have kt : KT H (mergeKT [] kvs) (storedAllH [] prs) := KT.mergeT rel .nil
    refine ⟨.ref s.heap.objs.size, upd H s.heap.objs.size (.dT (mergeKT [] kvs)), I.laid (t' := tk) (fun b o e => k b o (fun z => nomatch z) e) (Nat.le_refl _) (show ObjOk X.prog X.w _ _ _ (.dT (mergeKT [] kvs)) from ⟨hlen, hm, _, L2.KT.keeps kt fun b ys e => by rw [upd_ne (ne_of_none e hn)]; exact e, o2, es, ep, d1, d2, d3, d4, d6⟩), rfl, q _ hn⟩
end
/-! ### == and != of dicts with tuples as keys, that are equal -/
section
variable {prog : Program} {w : World} {K : Type} [DecidableEq K] {knd : HeapKind prog w K} {A : Around} {E : Value → Shared → Prop} {s : Shared}
theorem samePairsH {nm : String} {a b : Addr} {xs ys : List (K × Addr × Value)} {Q : Bool → Shared → Prop} (hu : knd.room A) (ha : (a == sysModules) = false) (hb : (b == sysModules) = false)
    (da : s.heap.DictOfH knd a xs) (db : s.heap.DictOfH knd b ys) (hl : xs.length = ys.length) (hits : ∀ x ∈ xs, ∃ p, atKey ys x.1 = some p ∧ SeqAt.EqP prog w A s x.2.2 p.2 true) (h : Q true s) :
    wpAny (model prog w) A (Builtin.Dict.samePairs nm a b) Q E s := by
  obtain ⟨oa, es, ep, hoa, _, hda, hpa, hisa, hna⟩ := da
  obtain ⟨ob, es', ep', hob, _, hdb, hpb, hisb, hnb⟩ := db
  have hla := size_of_entries hpa
  have hlb := size_of_entries hpb
  have hsz : es.size = es'.size := by rw [hla, hlb, hl]
  unfold Builtin.Dict.samePairs Builtin.Dict.showsAll
  rw [if_neg (show ¬ (a == sysModules) = true by rw [ha]; exact Bool.false_ne_true), if_neg (show ¬ (b == sysModules) = true by rw [hb]; exact Bool.false_ne_true)]
  refine wpAny_bind (wpAny_pure (wpAny_bind (wpAny_pure ?_)))
  refine wpAny_bind (wpAny_dictEntries hoa hda ?_)
  dsimp only
  refine wpAny_bind (wpAny_dictEntries hob hdb ?_)
  rw [if_neg (by rw [hsz]; simp)]
  refine wpAny_bind (wpAny_dictEpoch hoa hda ?_)
  refine wpAny_bind ?_
  rw [Std.Legacy.Range.forIn_eq_forIn_range']
  simp only [Std.Legacy.Range.size, Nat.sub_zero, Nat.add_sub_cancel, Nat.div_one]
  refine wpAny_forIn_list _
    (fun rest q s' => s' = s ∧ q = (none, ()) ∧ ∃ i, rest = List.range' i (es.size - i) ∧ i ≤ es.size)
    _ ?_ ?_ _ _ ⟨rfl, rfl, 0, by simp, Nat.zero_le _⟩
  · rintro x rest q s' ⟨rfl, rfl, i, hr, hi⟩
    have hlt : i < es.size := by
      rcases Nat.lt_or_ge i es.size with h | h
      · exact h
      · rw [Nat.sub_eq_zero_of_le h] at hr; simp at hr
    obtain ⟨rfl, hrest⟩ : x = i ∧ rest = List.range' (i + 1) (es.size - (i + 1)) := by
      have e : es.size - i = (es.size - (i + 1)) + 1 := by omega
      rw [e, List.range'_succ] at hr
      injection hr with h1 h2
      exact ⟨h1, h2⟩
    refine wpAny_bind (wpAny_dictEntries hoa hda ?_)
    have hlt' : x < xs.length := by rw [← hla]; exact hlt
    have hx : xs[x]? = some xs[x] := List.getElem?_eq_getElem hlt'
    rw [entry_at hpa x, hx]
    have hm : xs[x] ∈ xs := List.getElem_mem hlt'
    obtain ⟨p, hp, he⟩ := hits _ hm
    generalize xs[x] = y at hx hm hp he
    show wpAny _ _ (holding [Value.ref y.2.1, y.2.2] _ >>= _) _ _ _
    refine wpAny_bind (wpAny_holding (wpAny_bind ?_))
    show wpAny _ _ (dictFind b (.ref y.2.1) (knd.hash y.1)) _ _ _
    refine wpAny_dictFind_heap hu (hisa _ hm) hob hdb hpb hisb hnb (fun hno => ?_) fun j p' hj => ?_
    · rw [atKey_none_of_get hno] at hp; cases hp
    · rw [atKey_of_get hnb hj] at hp
      cases hp
      refine wpAny_bind (wpAny_dictEntries hob hdb ?_)
      rw [entry_at hpb j, hj]
      show wpAny _ _ (holding [p.2] (eqBool y.2.2 p.2)) _ _ _
      refine wpAny_holding (he _ _ ?_)
      show wpAny _ _ (if (!true) = true then _ else _) _ _ _
      rw [if_neg (by decide)]
      refine wpAny_bind (wpAny_dictEpoch hoa hda ?_)
      rw [if_neg (by simp)]
      exact wpAny_pure ⟨rfl, rfl, x + 1, hrest, hlt⟩
  · rintro q s' ⟨rfl, rfl, i, hr, hi⟩
    exact wpAny_pure h
theorem eq_dictsH {a b : Addr} {xs ys : List (K × Addr × Value)} (hu' : knd.room A.in1) (ha : (a == sysModules) = false) (hb : (b == sysModules) = false)
    (da : s.heap.DictOfH knd a xs) (db : s.heap.DictOfH knd b ys) (hl : xs.length = ys.length) (hu : A.units < cLine) (hits : ∀ x ∈ xs, ∃ p, atKey ys x.1 = some p ∧ SeqAt.EqP prog w A.in1 s x.2.2 p.2 true) (E Q : Value → Shared → Prop) (h : Q (.bool true) s) : wpAny (model prog w) A (compareOp .Eq (.ref a) (.ref b)) Q E s := by
  refine wpAny_richCompare_same_room (op := .Eq) da.typeIs db.typeIs PySem.F.slot_dict_eq (wpAny_call_entry PySem.F.slot_dict_eq da.typeIs PySem.F.entry_dict_eq ?_ (PySem.F.args_dict_eq_2 _ _)) hu
  show wpAny _ _ (Builtin.Dict.dictSlotArgs "__eq__" ⟨[.ref a, .ref b], []⟩ >>= _) _ _ s
  refine wpAny_bind ?_
  unfold Builtin.Dict.dictSlotArgs
  refine wpAny_bind (wpAny_notOrdered_dict da.typeIs ?_)
  show wpAny _ _ (pure (Value.ref a, Value.ref b)) _ _ s
  refine wpAny_pure ?_
  refine wpAny_bind (wpAny_isInstance (T := "dict") db.typeIs PySem.F.sub_dict_dict ?_)
  simp only [Bool.not_true, Bool.false_eq_true, if_false]
  refine wpAny_bind (wpAny_pure (wpAny_bind (wpAny_pure ?_)))
  refine wpAny_bind (samePairsH hu' ha hb da db hl hits ?_)
  refine wpAny_pure ⟨_, rfl, ?_, ?_⟩
  · exact fun x => nomatch x
  · simpa using h
theorem ne_dictsH {a b : Addr} {xs ys : List (K × Addr × Value)} (hu' : knd.room A.in1) (ha : (a == sysModules) = false) (hb : (b == sysModules) = false)
    (da : s.heap.DictOfH knd a xs) (db : s.heap.DictOfH knd b ys) (hl : xs.length = ys.length) (hu : A.units < cLine) (hits : ∀ x ∈ xs, ∃ p, atKey ys x.1 = some p ∧ SeqAt.EqP prog w A.in1 s x.2.2 p.2 true) (E Q : Value → Shared → Prop) (h : Q (.bool false) s) : wpAny (model prog w) A (compareOp .NotEq (.ref a) (.ref b)) Q E s := by
  refine wpAny_richCompare_same_room (op := .NotEq) da.typeIs db.typeIs PySem.F.slot_dict_ne (wpAny_call_entry PySem.F.slot_dict_ne da.typeIs PySem.F.entry_dict_ne ?_ (PySem.F.args_dict_ne_2 _ _)) hu
  show wpAny _ _ (Builtin.Dict.dictSlotArgs "__ne__" ⟨[.ref a, .ref b], []⟩ >>= _) _ _ s
  refine wpAny_bind ?_
  unfold Builtin.Dict.dictSlotArgs
  refine wpAny_bind (wpAny_notOrdered_dict da.typeIs ?_)
  show wpAny _ _ (pure (Value.ref a, Value.ref b)) _ _ s
  refine wpAny_pure ?_
  refine wpAny_bind (wpAny_isInstance (T := "dict") db.typeIs PySem.F.sub_dict_dict ?_)
  simp only [Bool.not_true, Bool.false_eq_true, if_false]
  refine wpAny_bind (wpAny_pure (wpAny_bind (wpAny_pure ?_)))
  refine wpAny_bind (samePairsH hu' ha hb da db hl hits ?_)
  refine wpAny_pure ⟨_, rfl, ?_, ?_⟩
  · exact fun x => nomatch x
  · simpa using h
end
end PV

set_option maxHeartbeats 4000000
namespace PV
open PySem PySem.Spec L2 PyProof.Rows
/-! ### d.get(k), d.get(k, x) -/
section
variable {X : Cx} {c : Ctx} {w : Wi} {a b e2 : Expr} {f g : M Rs} {h : M P} {pos apos cpos : Pos}
theorem get1T_weak (hst : c.st = true) : ∀ σ H Q, tE c w (get1TF f g) σ H Q → tDGet1 (tE c w f) (tE c w g) σ H Q := fun σ H Q ⟨F, π, gg, s, po⟩ => by
  refine ⟨F, π, gg, s, (Po.split po).mono fun r1 π1 F1 H1 t1 s1 p1 x hx => ?_⟩
  cases e1 : rdP π1 r1 with
  | none => rw [e1] at p1; exact p1.elim
  | some q1 =>
    rw [e1] at p1
    by_cases z : isTP q1 = true
    · simp only [if_pos z] at p1
      obtain ⟨ad, rfl, hd⟩ := Rb.isT s1.le z (hx.rb s1 e1)
      refine ⟨ad, rfl, hd, F1, π1, w.mono _ _ t1.le gg, s1, (Po.split p1).mono fun r2 π2 F2 H2 t2 s2 p2 y hy => ?_⟩
      unfold op2 at p2
      cases e2 : rdP π2 r1 with
      | none => rw [e2] at p2; exact p2.elim
      | some q2 =>
        cases e3 : rdP π2 r2 with
        | none => rw [e2, e3] at p2; exact p2.elim
        | some q3 =>
          rw [e2, e3] at p2
          obtain ⟨rv, e4, k⟩ := outR_post s2 p2
          obtain ⟨a2, o, e5, e6, r, rfl, e7⟩ := get2T_post hst s2.le ((hx.step t2).rb s2 e2) (hy.rb s2 e3) (mk_non (c := c) (H := F2)) e4
          cases e5
          refine ⟨o, e6, ?_⟩
          obtain ⟨k1, k2⟩ := k _ F2 H2 (Gr.refl s2.le) (show Rp c F2 r _ from e7)
          exact k1 _ (k2.base (t1.trans t2))
    · simp only [if_neg z] at p1; exact p1.elim
theorem get2T_weak (hst : c.st = true) : ∀ σ H Q, tE c w (get2TF f g h) σ H Q → tDGet2 (tE c w f) (tE c w g) (tV c w h) σ H Q := fun σ H Q ⟨F, π, gg, s, po⟩ => by
  refine ⟨F, π, gg, s, (Po.split po).mono fun r1 π1 F1 H1 t1 s1 p1 x hx => ?_⟩
  cases e1 : rdP π1 r1 with
  | none => rw [e1] at p1; exact p1.elim
  | some q1 =>
    rw [e1] at p1
    by_cases z : isTP q1 = true
    · simp only [if_pos z] at p1
      obtain ⟨ad, rfl, hd⟩ := Rb.isT s1.le z (hx.rb s1 e1)
      refine ⟨ad, rfl, hd, F1, π1, w.mono _ _ t1.le gg, s1, (Po.split p1).mono fun r2 π2 F2 H2 t2 s2 p2 y hy => ⟨F2, π2, w.mono _ _ (t1.trans t2).le gg, s2, (Po.split p2).mono fun zz π3 F3 H3 t3 s3 p3 u hu => ?_⟩⟩
      unfold op2 at p3
      cases e2 : rdP π3 r1 with
      | none => rw [e2] at p3; exact p3.elim
      | some q2 =>
        cases e3 : rdP π3 r2 with
        | none => rw [e2, e3] at p3; exact p3.elim
        | some q3 =>
          rw [e2, e3] at p3
          obtain ⟨rv, e4, k⟩ := outR_post s3 p3
          obtain ⟨a2, o, e5, e6, r, rfl, e7⟩ := get2T_post hst s3.le ((hx.step (t2.trans t3)).rb s3 e2) ((hy.step t3).rb s3 e3) hu e4
          cases e5
          refine ⟨o, e6, ?_⟩
          obtain ⟨k1, k2⟩ := k _ F3 H3 (Gr.refl s3.le) (show Rp c F3 r _ from e7)
          exact k1 _ (k2.base (t1.trans (t2.trans t3)))
    · simp only [if_neg z] at p1; exact p1.elim
theorem p_get1T (hst : c.st = true) (hu : X.A.units + 1 < cLine) (ha : PE X a (tE c w f)) (hb : PE X b (tE c w g)) (m : M1 X a "get" apos b cpos) : PE X (.Call (.Attribute a "get" apos) [b] [] cpos) (tE c w (get1TF f g)) :=
  pe_weak (pe_dget1 hu ha hb m) (get1T_weak hst)
theorem p_get2T (hst : c.st = true) (hu : X.A.units + 1 < cLine) (ha : PE X a (tE c w f)) (hb : PE X b (tE c w g)) (he : PE X e2 (tV c w h)) (m : M2 X a "get" apos b e2 cpos) : PE X (.Call (.Attribute a "get" apos) [b, e2] [] cpos) (tE c w (get2TF f g h)) :=
  pe_weak (pe_dget2 hu ha hb he m) (get2T_weak hst)
/-! ### {}, {k: v}, dict(xs) -/
def dnewTF : M Rs := fun π => .ok (.own (tdO [])) π
theorem rn_tdct {F H : Hp} {p : Addr} {d : Dt} {kvs : List (List Key × V)} (l : Le F H) (h : H p = none) (r : TR c F d kvs) (hn : (kvs.map (·.1)).Nodup) : RN c H F (L2.upd H p (.dT kvs)) (.own (tdO d)) (.ref p) :=
  ⟨p, rfl, h, l.gone h, mk_town upd_same r hn⟩
theorem p_dnewT : PE X (.Dict [] [] pos) (tE c w dnewTF) := pe_weak pe_dnewT fun σ H Q ⟨F, π, gg, s, po⟩ p hp => by
  have gr : Gr F H F (L2.upd H p (.dT [])) := gr_any s.le hp
  have rn : RN c H F (L2.upd H p (.dT [])) (.own (tdO [])) (.ref p) := rn_tdct s.le hp .nil List.nodup_nil
  exact po F _ gr.tr (gr.sr s) (.ref p) (rn.rr s gr)
/-- pairs as keys and values -/
def prsTOf : List P → Option Dt
  | [] => some []
  | .tup [k, p] :: ps => match tkeyQ k, prsTOf ps with
    | some k, some d => some ((k, p) :: d)
    | _, _ => none
  | _ => none
def dictTP : List P → Option Rv
  | [.lst ps] => (prsTOf ps).bind fun d => if d.length ≤ 1000000 then some (.own (tdO (mergeT' [] d))) else none
  | _ => none
theorem prsT_rps (hst : c.st = true) {K : PySem.W.Frag} (hK : c.K = K) {F H : Hp} (l : Le F H) : ∀ {ps : List P} {d : Dt} {vs : List V}, prsTOf ps = some d → Rps c F ps vs →
    ∃ (as : List Addr) (kvs : List (List Key × V)), vs = as.map V.ref ∧ Paired (TPair K H) as kvs ∧ TR c F d kvs
  | [], d, vs, e, r => by
    cases e
    exact ⟨[], [], by rw [rps_nil_inv r]; rfl, .nil, .nil⟩
  | p :: ps, d, vs, e, r => by
    obtain ⟨v, t, rfl, r1, r2⟩ := rps_inv r
    cases p with
    | tup xs =>
      match xs, e, r1 with
      | [k, p], e, r1 =>
        have e' : (match tkeyQ k, prsTOf ps with | some k, some d => some ((k, p) :: d) | _, _ => none) = some d := e
        cases e1 : tkeyQ k with
        | none => rw [e1] at e'; cases e'
        | some kk =>
          cases e2 : prsTOf ps with
          | none => rw [e1, e2] at e'; cases e'
          | some d2 =>
            rw [e1, e2] at e'
            cases e'
            obtain ⟨as, kvs, rfl, h1, h2⟩ := prsT_rps hst hK l e2 r2
            obtain ⟨a, us, rfl, g1, g2⟩ := rp_tup r1
            obtain ⟨v1, t1, rfl, g3, g4⟩ := rps_inv g2
            obtain ⟨v2, t2, rfl, g5, g6⟩ := rps_inv g4
            have := rps_nil_inv g6
            subst this
            obtain ⟨b, rfl, hb⟩ := Rb.tkey (F := F) hst l e1 (.inl g3)
            exact ⟨a :: as, (kk, v2) :: kvs, rfl, .cons ⟨b, by rw [← hK]; exact l.sqT g1, hb⟩ h1, TR.cons rfl g5 h2⟩
    | _ => cases e
theorem v_dictT (hst : c.st = true) : CalV c (fun xs H Q => ∃ (a : Addr) (ps : List Addr) (kvs : List (List Key × V)), xs = [.ref a] ∧ SqL c.K H a (ps.map V.ref) ∧ Paired (TPair c.K H) ps kvs ∧
    ∀ p, H p = none → Q (.ref p) (upd H p (.dT (mergeKT [] kvs)))) dictTP := by
  intro F H ps xs res Q l h e k
  unfold dictTP at e
  split at e
  · rename_i qs
    cases e1 : prsTOf qs with
    | none => rw [e1] at e; cases e
    | some d =>
      rw [e1] at e
      simp only [Option.bind_some] at e
      split at e
      · cases e
        obtain ⟨v, rfl, hv⟩ := rbs1 h
        obtain ⟨a, vs, rfl, q, r⟩ := hv.lst l
        obtain ⟨as, kvs, rfl, h1, h2⟩ := prsT_rps hst rfl l e1 r
        refine ⟨a, as, kvs, rfl, .of q, h1, fun p hp => k _ _ _ (gr_any l hp) (rn_tdct l hp (TR.merge h2 .nil) (mergeKT_nodup List.nodup_nil))⟩
      · cases e
  · cases e
end
/-! ### d[k] = v, d[k] += v -/
def getDt (π : En) (i : Nat) : Option Dt := match π[i]? with
  | some sl => sl.ow.bind fun o => kvT o.toP
  | none => none
def putDt (π : En) (i : Nat) (d : Dt) : En := match π[i]? with
  | some sl => π.set i (sl.put (tdO d))
  | none => π
def dstTR (i : Nat) (p : P) (r : Rs) : M Fl := fun π => match r with
  | .val q => (match tkeyQ q, getDt π i with
    | some k, some d => if d.length ≤ 1000000 then .ok .nx (putDt π i (putT' d k p)) else .bad
    | _, _ => .bad)
  | _ => .bad
def dstTF (i : Nat) (fe : M P) (fk : M Rs) : M Fl := fun π => (fe π).bind fun p π1 => if (getDt π1 i).isSome then (fk π1).bind (dstTR i p) else .bad
theorem SR.getDt {c : Ctx} {F H : Hp} {π : En} {σ : L2.St} {i : Nat} {d : Dt} (s : SR c F π σ H) (h : PV.getDt π i = some d) : ∃ sl o a kvs, π[i]? = some sl ∧ sl.ow = some o ∧ σ[i]? = some (some (.ref a)) ∧ H a = some (.dT kvs) ∧ TR c F d kvs ∧ (kvs.map (·.1)).Nodup := by
  unfold PV.getDt at h
  cases q : π[i]? with
  | none => rw [q] at h; cases h
  | some sl =>
    rw [q] at h
    have h0 : (sl.ow.bind fun o => kvT o.toP) = some d := h
    cases q2 : sl.ow with
    | none => rw [q2] at h0; cases h0
    | some o =>
      rw [q2] at h0
      have h' : kvT o.toP = some d := h0
      obtain ⟨a, e, _, ow⟩ := s.ow i _ o q q2
      cases o with
      | dct t ks ws =>
        cases t with
        | false => cases h'
        | true =>
          obtain ⟨kvs, q3, q4, q5⟩ := ow_tdct h' ow
          exact ⟨sl, _, a, kvs, rfl, q2, e, q3, q4, q5⟩
      | lst ps => cases h'
      | obj C ps => cases h'
theorem var_getDt {π : En} {i : Nat} {d : Dt} (h : getDt π i = some d) : varF i π = .ok (.bor i) π := by
  unfold getDt at h
  unfold varF
  cases q : π[i]? with
  | none => rw [q] at h; cases h
  | some sl =>
    rw [q] at h
    cases sl with
    | own o => rfl
    | loan o => rfl
    | _ => cases h
section
variable {X : Cx} {c : Ctx} {w : Ws} {ie e : Expr} {x : Str} {xp tp pos : Pos} {i : Nat} {fe : M P} {fi fv : M Rs}
theorem s_dstT (hst : c.st = true) (hu : X.A.units + 1 < cLine) (ho : PE X (.Name x xp) (tE c w (varF i))) (hi : PE X ie (tE c w fi)) (he : PE X e (tV c w fe)) (hs : swapsWith e (some (.Subscript (.Name x xp) ie tp)) pos.line X.env = pure false := by rfl) :
    PS X (.Assign [.Subscript (.Name x xp) ie tp] e pos) (tS c w (dstTF i fe fi)) :=
  ps_weak (ps_dput hu ho hi he hs) fun D σ H ⟨F, π, gg, s, po⟩ => by
    refine ⟨F, π, gg, s, (PoS.split po).mono fun p π1 F1 H1 t1 s1 p1 v hp => ?_⟩
    cases e1 : getDt π1 i with
    | none => rw [e1] at p1; exact p1.elim
    | some d =>
      rw [e1] at p1
      refine ⟨F1, π1, w.mono _ _ t1.le gg, s1, ?_⟩
      rw [var_getDt e1]
      intro F2 H2 t2 s2 v2 hv2
      refine ⟨F2, π1, w.mono _ _ (t1.trans t2).le gg, s2, (PoS.split (PoS.from (show PoS c w.W F1 π1 σ H1 ((fi π1).bind (dstTR i p)) _ from p1) t2)).mono fun r π3 F3 H3 t3 s3 p3 y hy => ?_⟩
      unfold dstTR at p3
      cases r with
      | own o => exact p3.elim
      | bor j => exact p3.elim
      | val q =>
        cases e3 : tkeyQ q with
        | none => simp only [e3] at p3; exact p3.elim
        | some k =>
          cases e4 : getDt π3 i with
          | none => simp only [e3, e4] at p3; exact p3.elim
          | some d2 =>
            simp only [e3, e4] at p3
            by_cases hz : d2.length ≤ 1000000
            · simp only [if_pos hz] at p3
              obtain ⟨sl, o, a, kvs, q0, q1, q2, q3, q4, q5⟩ := s3.getDt e4
              have hv3 : v2 = .ref a := by
                have z : σ[i]? = some (some v2) := hv2
                rw [q2] at z
                exact (Option.some.inj (Option.some.inj z)).symm
              obtain ⟨bb, hy', hbb⟩ := Rb.tkey (F := F3) hst s3.le e3 (.inl hy)
              have rp3 : Rp c F3 p v := Rp.mono (t2.trans t3).le _ _ hp
              have pc : putDt π3 i (putT' d2 k p) = π3.set i (sl.put (tdO (putT' d2 k p))) := by unfold putDt; rw [q0]
              obtain ⟨s4, t4⟩ := s3.put (u := .dT (putK kvs k v)) q0 q1 q2 (o' := tdO (putT' d2 k p)) (mk_town upd_same (q4.put rp3) (putKT_nodup q5))
              refine ⟨a, _, hv3, .inr ⟨kvs, k, bb, q3, hy', hbb, by have := q4.len; have := sizeLine_eq; omega, rfl⟩, ?_⟩
              rw [pc] at p3
              exact p3 F3 σ _ t4 s4
            · simp only [if_neg hz] at p3; exact p3.elim
end
/-! ### d == e, d != e, of equal dicts with tuples as keys -/
def leafEq : P → P → Bool
  | .int i, .int j => i == j
  | .str x, .str y => x == y
  | _, _ => false
def sameT (d e : Dt) : Bool := d.length == e.length && d.all fun x => match getT' e x.1 with
  | some r => leafEq x.2 r
  | none => false
def eqTP (b : Bool) (p q : P) : Option Rv := match kvT p, kvT q with
  | some d, some e => if sameT d e = true then some (.val (.bl b)) else none
  | _, _ => none
def rEqT (b : Bool) : R2 := fun x y H Q => ∃ a a' ks ls, x = .ref a ∧ y = .ref a' ∧ Rd H a (.dT ks) ∧ Rd H a' (.dT ls) ∧ ks.length = ls.length ∧ (∀ p ∈ ks, ∃ u, valV ls p.1 = some u ∧ p.2 = u ∧ flatB u = true) ∧ Q (.bl b) H
section
variable {X : Cx} {c : Ctx}
theorem hitsT {ks ls : List (List Key × V)} {H : Hp} {A : Around} {s : Shared} {xs ys : List (List Key × Addr × Value)} (ra : KT H ks xs) (rb : KT H ls ys) (h : ∀ p ∈ ks, ∃ u, valV ls p.1 = some u ∧ p.2 = u ∧ flatB u = true) :
    ∀ x ∈ xs, ∃ p, atKey ys x.1 = some p ∧ SeqAt.EqP X.prog X.w A s x.2.2 p.2 true := by
  unfold KT at ra
  induction ra with
  | nil => intro x hx; exact nomatch hx
  | @cons p q ps qs hq t ih =>
    intro x hx
    rcases List.mem_cons.mp hx with e | hx
    · subst e
      obtain ⟨u, h1, h2, h3⟩ := h p List.mem_cons_self
      have rr : RelO (some u) ((atKey ys p.1).map (·.2)) := by rw [← h1]; exact L2.KT.val rb p.1
      obtain ⟨y, hy, ry⟩ := rr.some_of
      obtain ⟨z, hz, rfl⟩ := Option.map_eq_some_iff.mp hy
      refine ⟨z, by rw [← hq.1]; exact hz, ?_⟩
      subst h2
      exact (eqAt_same hq.2.2 ry h3).eqP
    · exact ih (fun p hp => h p (List.mem_cons_of_mem _ hp)) x hx
theorem op_eqT (hu : X.A.units + 1 < cLine) : OpR X (compareOp .Eq) (rEqT true) := by
  intro pins s σ H x y v u Q I rx ry ⟨a, a', ks, ls, e1, e2, h1, h2, h3, h4, q⟩
  subst e1 e2
  obtain rfl : v = Value.ref a := rx
  obtain rfl : u = Value.ref a' := ry
  obtain ⟨_, ya, xs, ra, da⟩ := dt_rd I.hok h1
  obtain ⟨_, yb, ys, rb, db⟩ := dt_rd I.hok h2
  exact eq_dictsH (tupleKind_room_in1 hu) ya yb da db (by rw [← Paired.length ra, ← Paired.length rb]; exact h3) (by omega) (hitsT (X := X) ra rb h4) _ _ ⟨.bl true, H, I, rfl, q⟩
theorem op_neT (hu : X.A.units + 1 < cLine) : OpR X (compareOp .NotEq) (rEqT false) := by
  intro pins s σ H x y v u Q I rx ry ⟨a, a', ks, ls, e1, e2, h1, h2, h3, h4, q⟩
  subst e1 e2
  obtain rfl : v = Value.ref a := rx
  obtain rfl : u = Value.ref a' := ry
  obtain ⟨_, ya, xs, ra, da⟩ := dt_rd I.hok h1
  obtain ⟨_, yb, ys, rb, db⟩ := dt_rd I.hok h2
  exact ne_dictsH (tupleKind_room_in1 hu) ya yb da db (by rw [← Paired.length ra, ← Paired.length rb]; exact h3) (by omega) (hitsT (X := X) ra rb h4) _ _ ⟨.bl false, H, I, rfl, q⟩
theorem leaf_eq {F : Hp} {p q : P} {x y : V} (h : leafEq p q = true) (rx : Rp c F p x) (ry : Rp c F q y) : x = y ∧ flatB y = true := by
  cases p with
  | int i =>
    cases q with
    | int j =>
      have : i = j := by simpa [leafEq] using h
      subst this
      rw [rp_int rx, rp_int ry]
      exact ⟨rfl, rfl⟩
    | _ => cases h
  | str i =>
    cases q with
    | str j =>
      have : i = j := by simpa [leafEq] using h
      subst this
      rw [rp_str rx, rp_str ry]
      exact ⟨rfl, rfl⟩
    | _ => cases h
  | _ => cases h
theorem same_vals {F : Hp} {e : Dt} {ls : List (List Key × V)} (he : TR c F e ls) : ∀ {d : Dt} {ks : List (List Key × V)}, TR c F d ks → (d.all fun x => match getT' e x.1 with
  | some r => leafEq x.2 r
  | none => false) = true → ∀ p ∈ ks, ∃ u, valV ls p.1 = some u ∧ p.2 = u ∧ flatB u = true
  | [], ks, h, _ => by rw [h.ninv]; intro p hp; exact nomatch hp
  | x :: d, ks, h, q => by
    obtain ⟨y, r, rfl, e1, e2, e3⟩ := h.inv
    rw [List.all_cons, Bool.and_eq_true] at q
    intro p hp
    rcases List.mem_cons.mp hp with z | hp
    · subst z
      cases g : getT' e x.1 with
      | none => rw [g] at q; cases q.1
      | some r =>
        rw [g] at q
        obtain ⟨v, g1, g2⟩ := (TR.get x.1 he).1 r g
        obtain ⟨z1, z2⟩ := leaf_eq q.1 e2 g2
        exact ⟨v, by rw [← e1]; exact g1, z1, z2⟩
    · exact same_vals he e3 q.2 p hp
theorem v_eqT (b : Bool) : OpV c (rEqT b) (eqTP b) := by
  intro F H p q x y res Q l h1 h2 e k
  unfold eqTP at e
  split at e
  · rename_i d1 d2 e1 e2
    split at e
    · rename_i hs
      cases e
      obtain ⟨a, ks, rfl, q1, q2, q3⟩ := h1.tdct l e1
      obtain ⟨a', ls, rfl, w1, w2, w3⟩ := h2.tdct l e2
      unfold sameT at hs
      rw [Bool.and_eq_true] at hs
      refine ⟨a, a', ks, ls, rfl, rfl, q1, w1, ?_, same_vals w2 q2 hs.2, give l k mk_bl⟩
      rw [← q2.len, ← w2.len]
      simpa using hs.1
    · cases e
  · cases e
end
end PV

set_option maxHeartbeats 4000000
namespace PV
open PySem PySem.Spec L2 PyProof.Rows
theorem hu4 {k : Nat} {A : Around} (r : Room k A) : A.units + 4 < cLine := by have := r.un; omega
/-! ### x, y, z = e, e', e'', of which more than one may be a new object -/
def Dis : List Rs → List V → Prop
  | [], _ => True
  | r :: rs, vs => (r.isOwn = true → ∀ (j : Nat) (r' : Rs), rs[j]? = some r' → r'.isOwn = true → (vs.drop 1)[j]? ≠ vs.head?) ∧ Dis rs (vs.drop 1)
def tRd (c : Ctx) (w : Wi) (f : M (List Rs)) : TA := fun σ H Q => ∃ F π, w.g σ F ∧ SR c F π σ H ∧ Po c w.W F π σ H (f π) (fun rs π' F' H' => ∀ vs, RRs c π H F' π' σ H' rs vs → Dis rs vs → Q vs H')
theorem rrs_own {c : Ctx} {F F0 H H0 : Hp} {π π0 : En} {σ : L2.St} : ∀ {rs : List Rs} {vs : List V} {j : Nat} {r : Rs}, RRs c π0 H0 F π σ H rs vs → rs[j]? = some r → r.isOwn = true → ∃ u, vs[j]? = some (.ref u) ∧ Fr0 π0 σ H0 u
  | [], vs, j, r, _, e, _ => by simp at e
  | r0 :: rs, vs, 0, r, h, e, o => by
    obtain ⟨v, t, rfl, h1, h2⟩ := h
    have er : r0 = r := by simpa using e
    subst er
    cases r0 with
    | own o' =>
      obtain ⟨a, rfl, _, _, _, fr⟩ := h1
      exact ⟨a, rfl, fr⟩
    | _ => cases o
  | r0 :: rs, vs, j + 1, r, h, e, o => by
    obtain ⟨v, t, rfl, h1, h2⟩ := h
    obtain ⟨u, e1, fr⟩ := rrs_own (F0 := F0) h2 (by simpa using e) o
    exact ⟨u, by simpa using e1, fr⟩
section
variable {X : Cx} {c : Ctx} {w : Wi} {a : Expr} {es : List Expr} {f : M Rs} {fs : M (List Rs)}
theorem prd_nil : PA X [] (tRd c w nilF) := pa_weak pa_nil fun σ H Q ⟨F, π, gg, s, po⟩ => po F H .refl s [] rfl True.intro
theorem prd_cons (ha : PE X a (tE c w f)) (hr : PA X es (tRd c w fs)) (hs : starEach (a :: es) X.env = (false, eval a X.env) :: starEach es X.env := by rfl) : PA X (a :: es) (tRd c w (consF f fs)) :=
  pa_weak (pa_cons ha hr hs) fun σ H Q ⟨F, π, gg, s, po⟩ => by
    refine ⟨F, π, gg, s, (Po.split po).mono fun r1 π1 F1 H1 t1 s1 p1 x hx => ⟨F1, π1, w.mono _ _ t1.le gg, s1, (Po.split p1).mono fun rs π2 F2 H2 t2 s2 p2 xs hxs hd => ?_⟩⟩
    refine p2 F2 H2 .refl s2 (x :: xs) ⟨x, xs, rfl, hx.step t2, hxs.base t1⟩ ⟨fun ho j r' e o' z => ?_, hd⟩
    obtain ⟨u, e1, fr⟩ := rrs_own (F0 := F) hxs e o'
    cases r1 with
    | own o =>
      obtain ⟨b, rfl, h1, h2, h3, _⟩ := hx
      have z' : xs[j]? = some (.ref b) := z
      rw [e1] at z'
      cases z'
      obtain ⟨ob, h4⟩ := h3.there
      rcases fr with fr | fr
      · rw [h4] at fr; cases fr
      · exact h2 fr
    | _ => cases ho
theorem rq_nextD {F H : Hp} {π π' : En} {σ σ' : L2.St} {r1 r2 : Rs} {v u : V} (h : RQ c F π σ H r2 u) (o3 : ∀ b, Own π' σ' b → Own π σ b ∨ (v = .ref b ∧ ∃ o, r1 = .own o)) (hno : r1.isOwn = true → r2.isOwn = true → u ≠ v) : RQ c F π' σ' H r2 u := by
  cases r2 with
  | val p => exact h
  | bor k => trivial
  | own o =>
    obtain ⟨a, e, h1, h2, h3⟩ := h
    refine ⟨a, e, h1, fun z => ?_, h3⟩
    rcases o3 a z with q | ⟨q1, o', q⟩
    · exact h2 q
    · subst q; exact hno rfl rfl (e.trans q1.symm)
end
def par3DR (i j l : Nat) (rs : List Rs) : M Fl := fun π => match rs with
  | [r1, r2, r3] => set3R i j l r1 r2 r3 π
  | _ => .bad
def par3DF (i j l : Nat) (fa : M (List Rs)) : M Fl := fun π => (fa π).bind (par3DR i j l)
section
variable {X : Cx} {c : Ctx} {w : Ws} {a b d : Expr} {x y z : Str} {px py pz pt pos : Pos} {kt k2 pt2} {i j l : Nat} {fa : M (List Rs)}
theorem s_par3D (hc : X.calm = true) (hN : X.N.Nodup) (hi : X.N[i]? = some x) (hj : X.N[j]? = some y) (hl : X.N[l]? = some z) (hij : i ≠ j) (hil : i ≠ l) (hjl : j ≠ l)
    (hx : X.env.scope.names.lookup x = some .local) (hy : X.env.scope.names.lookup y = some .local) (hz : X.env.scope.names.lookup z = some .local) (ha : PA X [a, b, d] (tRd c w fa))
    (hw : swappedStores [.Tuple [.Name x px, .Name y py, .Name z pz] kt pt] (.Tuple [a, b, d] k2 pt2) X.env = pure (some [x, y, z]))
    (hs : swapsWithSole [.Tuple [.Name x px, .Name y py, .Name z pz] kt pt] (.Tuple [a, b, d] k2 pt2) pos.line X.env = pure false := by rfl) :
    PS X (.Assign [.Tuple [.Name x px, .Name y py, .Name z pz] kt pt] (.Tuple [a, b, d] k2 pt2) pos) (tS c w (par3DF i j l fa)) :=
  ps_weak (ps_par3 hc hN hi hj hl hij hil hjl hx hy hz ha hw hs) fun D σ H ⟨F, π, gg, s, po⟩ => by
    refine ⟨F, π, gg, s, ?_⟩
    unfold par3DF at po
    cases e0 : fa π with
    | bad => rw [e0] at po; exact po
    | exc C ps π1 => rw [e0] at po; exact fun F' H' d t s => po F' σ H' d t s
    | ok rs π1 =>
    rw [e0] at po
    intro F1 H1 t1 s1 vs hv hd
    have p1 : PoS c w.W F π σ H (par3DR i j l rs π1) (flK c D π σ H) := po
    unfold par3DR at p1
    split at p1
    · rename_i r1 r2 r3
      obtain ⟨v1, vs1, rfl, h1, hv1⟩ := hv
      obtain ⟨v2, vs2, rfl, h2, hv2⟩ := hv1
      obtain ⟨v3, vs3, rfl, h3, hv3⟩ := hv2
      have e3 : vs3 = [] := hv3
      subst e3
      refine ⟨v1, v2, v3, rfl, ?_⟩
      have n12 : r1.isOwn = true → r2.isOwn = true → v2 ≠ v1 := fun q1 q2 z => hd.1 q1 0 r2 rfl q2 (by rw [z]; rfl)
      have n13 : r1.isOwn = true → r3.isOwn = true → v3 ≠ v1 := fun q1 q2 z => hd.1 q1 1 r3 rfl q2 (by rw [z]; rfl)
      have n23 : r2.isOwn = true → r3.isOwn = true → v3 ≠ v2 := fun q1 q2 z => hd.2.1 q1 0 r3 rfl q2 (by rw [z]; rfl)
      have fr : ∀ {r : Rs} {v : V}, RR c π H F1 π1 σ H1 r v → ∀ a o, v = .ref a → r = .own o → Fr0 π σ H a := fun {r v} h a o ev er => by
        subst er
        obtain ⟨a', e4, _, _, _, fr⟩ := h
        rw [ev] at e4; cases e4
        exact fr
      unfold set3R at p1
      obtain ⟨π2, e1, s2, t2, o2⟩ := setR_step s1 h1.rq p1
      rw [e1] at p1
      have T2 := t2 F π σ H t1 (fr h1)
      have p2 : PoS c w.W F π σ H ((setR j r2 π2).bind fun _ π2 => setR l r3 π2) (flK c D π σ H) := p1
      obtain ⟨π3, e2, s3, t3, o3⟩ := setR_step s2 (rq_nextD h2.rq o2 n12) p2
      rw [e2] at p2
      have T3 := t3 F π σ H T2 (fr h2)
      have p3 : PoS c w.W F π σ H (setR l r3 π3) (flK c D π σ H) := p2
      obtain ⟨π4, e4, s4, t4, o4⟩ := setR_step s3 (rq_nextD (rq_nextD h3.rq o2 n13) o3 n23) (bind_ok p3)
      rw [e4] at p3
      exact p3 F1 _ H1 (t4 F π σ H T3 (fr h3)) s4
    · exact p1.elim
end
/-! ### len(d) -/
def rLenD : List V → Hp → VK → Prop := fun xs H Q => ∃ a kvs, xs = [.ref a] ∧ Rd H a (.dK kvs) ∧ Q (.int kvs.length) H
theorem call_lenDk {X : Cx} : CallR X (.builtin "len") rLenD := by
  intro pins s σ H xs us Q I r ⟨a, kvs, e, hd, q⟩
  subst e
  obtain ⟨u, rfl, rx⟩ := vals1 r
  obtain rfl : u = Value.ref a := rx
  exact d_len I hd fun t s' I' => ⟨.int kvs.length, H, I', ⟨t, rfl⟩, q⟩
def lenDP : List P → Option Rv
  | [p] => (kvP p).map fun d => .val (.int d.length)
  | _ => none
theorem v_lenD {c : Ctx} : CalV c rLenD lenDP := by
  intro F H ps xs res Q l h e k
  unfold lenDP at e
  split at e
  · rename_i p
    cases e1 : kvP p with
    | none => rw [e1] at e; cases e
    | some d =>
      rw [e1] at e
      cases e
      obtain ⟨v, rfl, hv⟩ := rbs1 h
      obtain ⟨a, kvs, rfl, q1, q2, q3⟩ := hv.dct l e1
      refine ⟨a, kvs, rfl, q1, ?_⟩
      rw [← q2.len]
      exact give l k mk_int
  · cases e
/-! ### p in a tuple of data -/
def rInTD (K : PySem.W.Frag) : R2 := fun x y H Q => ∃ d ds, Dp K H x d ∧ Dp K H y (.tuple ds) ∧ SeqAt.shaped d = true ∧ SeqAt.shaped (.tuple ds) = true ∧ Q (.bl (ds.any fun z => PyData.eqv z d)) H
theorem op_inTD {X : Cx} (hu : X.A.units + 65 < cLine) : OpR X (compareOp .In) (rInTD X.K) := by
  intro pins s σ H x y v u Q I rx ry h
  obtain ⟨d, ds, hd, he, sd, se, q⟩ := h
  obtain ⟨as, r1⟩ := Dp.reads I d x v hd rx
  obtain ⟨bs, r2⟩ := Dp.reads I (.tuple ds) y u he ry
  exact SeqAt.in_tuple_reads r2 r1 (SeqAt.canLay_of_shaped se) (SeqAt.canLay_of_shaped sd) (room_in_shaped sd hu) ⟨.bl _, H, I, rfl, q⟩
def inTDP : P → P → Option Rv
  | p, .tup ps => if dat 60 p = true ∧ dat 60 (.tup ps) = true then ib (ps.any fun z => eqv z p) else none
  | _, _ => none
theorem v_inTD {c : Ctx} : OpV c (rInTD c.K) inTDP := by
  intro F H p1 p2 x y res Q l h1 h2 e k
  unfold inTDP at e
  split at e
  · rename_i ps
    split at e
    · rename_i hd
      cases e
      have d2 := dp_of 60 (.tup ps) y hd.2 (h2.rpH l)
      have s2 := dat_shaped hd.2
      unfold toD at d2 s2
      exact ⟨_, _, dp_of 60 p1 x hd.1 (h1.rpH l), d2, dat_shaped hd.1, s2, by rw [any_toD]; exact give l k mk_bl⟩
    · cases e
  · cases e
/-! ### (..) * 0, (..) * 1 -/
theorem tuple_mul0 (l : Addr) (items : Array Value) (n : Nat) (dd : Option Addr) (sl : Array (Option Value)) (u : Tok) (c1 : (items.isEmpty || (0 : Int) == 1) = false) :
    Meets (Builtin.«tuple.__mul__» ⟨[.ref l, .int 0 u], []⟩) (fun _ R s => s.heap.get? l = some { cls := .type "tuple", dict := dd, data := .seq items n, slots := sl } ∧
      R (.ok (.ret (Value.ref s.heap.objs.size))) { s with heap := s.heap.push { cls := Value.type "tuple", data := Data.seq #[] }, toks := s.toks }) :=
  .of_wp fun prog w A R s h => by
    obtain ⟨hp, g, d, tk, os⟩ := s
    obtain ⟨hl, h⟩ := h
    have f1 := AutoSeq1.idx_int
    wp_walk using wpAny_loadPart' hl
    repeat (first
      | (refine wpAny_ite_false (decide_eq_false (by rw [c1]; exact Bool.false_ne_true)) ?_; wp_walk using wpAny_loadPart' hl))
    exact ⟨_, rfl, h⟩
theorem tuple_mul1 (l : Addr) (items : Array Value) (n : Nat) (dd : Option Addr) (sl : Array (Option Value)) (u : Tok) :
    Meets (Builtin.«tuple.__mul__» ⟨[.ref l, .int 1 u], []⟩) (fun _ R s => s.heap.get? l = some { cls := .type "tuple", dict := dd, data := .seq items n, slots := sl } ∧
      R (.ok (.ret (Value.ref l))) s) :=
  .of_wp fun prog w A R s h => by
    obtain ⟨hp, g, d, tk, os⟩ := s
    obtain ⟨hl, h⟩ := h
    have f1 := AutoSeq1.idx_int
    have c1 : (items.isEmpty || (1 : Int) == 1) = true := by simp
    wp_walk using wpAny_loadPart' hl
    exact ⟨_, rfl, h⟩
def rRep01 (K : PySem.W.Frag) : R2 := fun x y H Q => ∃ l xs, x = .ref l ∧ SqT K H l xs ∧ xs ≠ [] ∧ ((y = .int 1 ∧ Q (.ref l) H) ∨ (y = .int 0 ∧ ∀ p, H p = none → Q (.ref p) (upd H p (.tup []))))
theorem op_rep01 {X : Cx} : OpR X (binaryOp .Mult) (rRep01 X.K) := by
  intro pins s σ H x y v u Q I rx ry h
  obtain ⟨l, xs, rfl, hT, hne, h⟩ := h
  cases rx
  obtain ⟨its, r, ⟨⟨cls, dd, data, sl⟩, ho, hc, n, hd⟩, hs⟩ := I.tuple hT
  simp only at hc hd
  subst hc hd
  have hn : its ≠ [] := fun e => hne (by
    have hle : its.length = xs.length := r.length.symm
    rw [e] at hle
    exact List.eq_nil_of_length_eq_zero hle.symm)
  have hi : its.toArray.isEmpty = false := by
    cases its with
    | nil => exact absurd rfl hn
    | cons a b => rfl
  rcases h with ⟨rfl, q⟩ | ⟨rfl, q⟩
  · obtain ⟨t, rfl⟩ := ry
    exact wpAny_binaryOp_repeat_ref (T := "tuple") (U := "int") (by decide) ⟨_, ho, rfl⟩ (fun s' => typeIs_int s' 1 t) noFill_tuple_mul F.fills_int_mul F.slot_int_rmul repeat_tuple F.slot_int_index.lookup
      (call_meets F.slot_int_rmul (typeIs_int s 1 t) F.entry_int_rmul (F.args_int_rmul_2 _ _) (int_rmul_tuple 1 t l its.toArray n dd sl)
        ⟨ho, rfl, ⟨_, ho, rfl⟩, call_meets F.slot_tuple_mul ⟨_, ho, rfl⟩ F.entry_tuple_mul (F.args_tuple_mul_2 _ _) (tuple_mul1 l its.toArray n dd sl t) ⟨ho, ⟨.ref l, H, I, rfl, q⟩⟩⟩)
  · obtain ⟨t, rfl⟩ := ry
    refine wpAny_binaryOp_repeat_ref (T := "tuple") (U := "int") (by decide) ⟨_, ho, rfl⟩ (fun s' => typeIs_int s' 0 t) noFill_tuple_mul F.fills_int_mul F.slot_int_rmul repeat_tuple F.slot_int_index.lookup
      (call_meets F.slot_int_rmul (typeIs_int s 0 t) F.entry_int_rmul (F.args_int_rmul_2 _ _) (int_rmul_tuple 0 t l its.toArray n dd sl)
        ⟨ho, rfl, ⟨_, ho, rfl⟩, call_meets F.slot_tuple_mul ⟨_, ho, rfl⟩ F.entry_tuple_mul (F.args_tuple_mul_2 _ _) (tuple_mul0 l its.toArray n dd sl t (by rw [hi]; rfl)) ⟨ho, ?_⟩⟩)
    exact ⟨.ref s.heap.objs.size, _, I.laid (t' := s.toks) (o := .tup []) (fun b ob q => Heap.get?_push_of_some _ q) (Nat.le_refl _) ⟨Nat.zero_le _, [], .nil, IsTup.new _ _⟩, rfl, q _ (I.hok.fresh (Nat.le_refl _))⟩
def mul01P : P → P → Option Rv
  | .tup xs, .int j => if xs = [] then none else if j = 1 then some (.val (.tup xs)) else if j = 0 then some (.val (.tup [])) else none
  | _, _ => none
theorem v_mul01 {c : Ctx} : OpV c (rRep01 c.K) mul01P := by
  intro F H p1 p2 x y res Q l h1 h2 e k
  unfold mul01P at e
  split at e
  · rename_i xs j
    split at e
    · cases e
    rename_i hne
    obtain ⟨a, vs, rfl, q1, r1, z⟩ := h1.tup l
    have n1 := rps_len r1
    have hv : vs ≠ [] := fun z => hne (List.eq_nil_of_length_eq_zero (by rw [n1, z]; rfl))
    split at e
    · rename_i hj
      cases e
      subst hj
      cases h2.int
      exact ⟨a, vs, rfl, q1, hv, .inl ⟨rfl, give l k z⟩⟩
    · split at e
      · rename_i hj
        cases e
        subst hj
        cases h2.int
        exact ⟨a, vs, rfl, q1, hv, .inr ⟨rfl, fun p hp => k _ _ _ (gr_tup l hp) (rn_tup l hp rps_nil)⟩⟩
      · cases e
  · cases e
end PV

set_option maxHeartbeats 4000000
namespace PV
open PySem PySem.Spec PySem.Calls PyProof.Rows PySem.W L2
/-! ### isinstance of a caught error that has fields -/
section
variable {prog : Program} {w : World} {A : Around} {E : Value → Shared → Prop} {s : Shared} {K : Frag} {x D : Addr} {ox : Obj} {od : Obj}
theorem classOf_d {Q : Option Value → Shared → Prop} (C : ExcC K D) (X : K.In s.heap) (I : PySem.W.InstAt s.heap x ox D (some od)) (h : Q (some (.ref D)) { s with toks := s.toks + 1 }) : wpAny (model prog w) A (getAttr? (.ref x) "__class__") Q E s := by
  have hf : findObj K D (some od) "__class__" = some (.bind (.builtin "getset_descriptor.__get__") (.builtin "object.__class__")) := findObj_data (by obtain ⟨cd, hc, _⟩ := any_some C.hd; rw [hc]; rfl) C.ha C.hn C.ht
  obtain ⟨hp, g, d, t, os⟩ := s
  have L0 := I.type (M := model prog w)
  have L1 := looks_findIn (M := model prog w) X C.hg
  have L2 := looks_findIn (M := model prog w) X C.hk
  have L3 := looks_find (M := model prog w) X I hf
  have sub : Looks (model prog w) hp (isInstance (.ref x) (.type "BaseException")) true := L0.andThen (looks_subIn X C.hs)
  have hx0 : (false && onTheHeap (Value.builtin "BaseException.__getattribute__")) = false := rfl
  have hx2 : (Value.builtin "BaseException.__getattribute__" == Value.builtin "object.__getattribute__") = false := by decide +kernel
  have hx1 : (onTheHeap (Value.ref D) && Value.builtin "BaseException.__getattribute__" == Value.builtin "object.__getattribute__") = false := by rw [hx2]; rfl
  unfold getAttr? getAttrBy? getAttrBy
  refine wpAny_bind (wpAny_mkText (wpAny_bind (wpAny_attempt (wpAny_holding (wpAny_bind (L0.at (wpAny_bind (L1.at ?_))))))))
  show wpAny _ _ (if (onTheHeap (Value.ref D) && Value.builtin "BaseException.__getattribute__" == Value.builtin "object.__getattribute__") = true then _ else _) _ _ _
  rw [hx1, if_neg Bool.false_ne_true]
  unfold getAttrByItsOwn hookBefore
  refine wpAny_bind ?_
  rw [if_pos (show onTheHeap (Value.ref D) = true from rfl)]
  refine L2.at ?_
  refine wpAny_bind (wpAny_attempt (wpAny_holding ?_))
  unfold callGetattribute
  rw [hx0, if_neg Bool.false_ne_true]
  unfold boundAndCalled
  rw [PySem.F.excAttr_ValueError.ga.bind (.ref x)]
  refine wpAny_bind (wpAny_pure ?_)
  show wpAny _ _ (call (.builtin "BaseException.__getattribute__") [.ref x, .str "__class__" t]) _ _ _
  refine wpAny_call (codeAny_call_builtin PySem.F.excAttr_ValueError.ga.plain PySem.F.entry_bexc_ga ?_)
  refine @check_slot (model prog w) _ _ ⟨hp, g, d, t + 1, os⟩ "BaseException.__getattribute__" "BaseException" "__getattribute__" (.ref x) [.str "__class__" t] [] _ (by decide +kernel) (by decide +kernel) sub (PySem.F.args_bexc_ga (.ref x) (.str "__class__" t)) ?_
  unfold Builtin.«object.__getattribute__»
  refine wpAny_bind (wpAny_of_eq (a := ((Value.ref x : Value), [Value.str "__class__" t])) (by first | rfl | (simp only [slotArgs]; rfl)) ?_)
  refine wpAny_bind (wpAny_pure (wpAny_bind (L0.at (wpAny_bind (L3.at ?_)))))
  show wpAny _ _ (holding [Value.builtin "object.__class__"] (call (.builtin "getset_descriptor.__get__") [.builtin "object.__class__", .ref x, .ref D]) >>= ret) _ _ _
  refine wpAny_bind (wpAny_holding (wpAny_call (class_get (s := ⟨hp, g, d, t + 1, os⟩) (ox := ox) (od := some od) X I C.hm ?_)))
  refine wpAny_pure ?_
  show wpAny _ _ (handedOut (.ref D)) _ _ _
  rw [handedOut_of (v := .ref D) rfl]
  first
    | exact wpAny_pure (wpAny_pure h)
    | exact wpAny_pure h
    | exact wpAny_pure (wpAny_bind (wpAny_pure (wpAny_pure h)))
theorem kitx_d (C : ExcC K D) : KitX K (.ref x) (.ref D) (fun h => PySem.W.InstAt h x ox D (some od)) where
  ty := fun _ _ _ I => I.type
  it := fun _ _ X _ => by
    obtain ⟨cdD, hcD, _⟩ := any_some C.hd
    unfold clsIn at hcD
    split at hcD
    · rename_i c' d' cd' sl' ho
      intro A' Q' E' s' k q
      unfold isType loadHead
      exact wpAny_bind (wpAny_loadPart (k _ _ (X _ _ ho)) (wpAny_pure q))
    · cases hcD
  ne := fun h tp dd its n sl X htp => by
    obtain ⟨cdD, hcD, _⟩ := any_some C.hd
    refine Bool.eq_false_iff.mpr fun q => ?_
    have e : D = tp := Value.ref.inj (beq_iff_eq.mp q)
    subst e
    unfold clsIn at hcD
    split at hcD
    · rename_i c' d' cd' sl' ho
      have z := (X _ _ ho).symm.trans htp
      cases z
    · cases hcD
  ca := fun X I k => classOf_d C X I k
end
def rIsD (K : PySem.W.Frag) (D a dd : Addr) : List V → Hp → VK → Prop := fun xs H Q => ∃ (c : V) (cv : Value) (b : Bool) (fs : List (Str × V)), xs = [.ref a, c] ∧ H dd = some (.xd fs) ∧ (∀ u, RelV c u → u = cv) ∧ PySem.W.kitOne K (.ref D) cv = some b ∧ Q (.bl b) H
theorem call_isD {X : Cx} {a D dd : Addr} {oe : Obj} {pn : List (Addr × Obj)} (C : ExcC X.K D) (hz : Zc (.ref D) (some dd) oe) (hf : ∃ vs, oe.data = .fields vs) : CallR (X.suite a ((a, oe) :: pn)) (.builtin "isinstance") (rIsD X.K D a dd) := by
  intro pins s σ H xs us Q I r h
  obtain ⟨c, cv, b, fs, rfl, ea, hcv, e, q⟩ := h
  cases r with
  | cons rx rr =>
    cases rr with
    | cons rt rr =>
      cases rr
      cases rx
      have ec := hcv _ rt
      subst ec
      obtain ⟨hget, _⟩ := I.pin (a, oe) (List.mem_append.mpr (.inl List.mem_cons_self))
      obtain ⟨vs, hv⟩ := hf
      have hx : ObjOk X.prog X.w H s.heap dd (.xd fs) := I.hok dd _ ea
      obtain ⟨mA, hns, hr⟩ := hx
      obtain ⟨od, ho, hl⟩ := lookIn_ns hns
      have J : PySem.W.InstAt s.heap a oe D (some od) := ⟨hget, hz.1, by unfold PySem.W.notCls; rw [hv] <;> rfl, by rw [hz.2]; exact ho⟩
      exact PySem.W.kia_one (kitx_d C) I.kIn J e (fun z => nomatch z) fun tk => ⟨.bl b, H, I.kept (t' := tk) fun _ _ z => z, rfl, q⟩

/-! ### statements of a suite that keep the exception's slot -/
/-- the ends, when the next statement may lean on slot i -/
def keepE (i : Nat) (a : Addr) (D : Ends) : Ends := { D with nx := fun σ H => σ[i]? = some (some (.ref a)) → D.nx σ H }
def tK (c : Ctx) (w : Ws) (i : Nat) (a : Addr) (d : Option Addr) (C : Nat) (ps : List P) (f : M Fl) : TS := fun D σ H => ∃ F π, (wx c w i a d C ps).g σ F ∧ SR c F π σ H ∧ PoS c (fun _ _ _ _ => False) F π σ H (f π) (flK c (keepE i a D) π σ H)
section
variable {X : Cx} {c : Ctx} {w : Ws} {i j C : Nat} {a : Addr} {d : Option Addr} {ps : List P} {st : Stmt} {rest body orelse : List Stmt} {e cnd : Expr} {pos pos' : Pos} {f g : M Fl} {fe : M Rs} {ft : M Bool} {x : Str}
theorem wx_le {σ : L2.St} {F F' : Hp} (h : (wx c w i a d C ps).g σ F) (l : Le F F') : (wx c w i a d C ps).g σ F' := (wx c w i a d C ps).mono F F' l h
theorem wx_at {σ σ' : L2.St} {F : Hp} (h : (wx c w i a d C ps).g σ F) (e : σ'[i]? = some (some (.ref a))) : (wx c w i a d C ps).g σ' F := ⟨h.1, e, h.2.2⟩
theorem k_nil : PSs X [] (tK c w i a d C ps skipF) := pss_weak pss_nil fun D σ H ⟨F, π, gx, s, po⟩ => po F σ H .refl s gx.2.1
theorem k_one (h : PS X st (tK c w i a d C ps f)) : PSs X [st] (tK c w i a d C ps f) := pss_one h
theorem k_cons (h1 : PS X st (tK c w i a d C ps f)) (h2 : PSs X rest (tK c w i a d C ps g)) : PSs X (st :: rest) (tK c w i a d C ps (seqF f g)) := pss_weak (pss_cons h1 h2) fun D σ H ⟨F, π, gx, s, po⟩ => by
  refine ⟨F, π, gx, s, (PoS.splitS po).mono fun fl π1 F1 σ1 H1 t s1 p1 => ?_⟩
  cases fl with
  | nx => exact fun hσ => ⟨F1, π1, wx_at (wx_le gx t.le) hσ, s1, p1.mono fun fl π2 F2 σ2 H2 t2 s2 k => k.base t⟩
  | bk => exact p1 F1 σ1 H1 .refl s1
  | ct => exact p1 F1 σ1 H1 .refl s1
  | rt r => exact p1 F1 σ1 H1 .refl s1
theorem k_if (hc : PT X cnd (tT c (wx c w i a d C ps) ft)) (ha : PSs X body (tK c w i a d C ps f)) (hb : PSs X orelse (tK c w i a d C ps g)) : PS X (.If cnd body orelse pos) (tK c w i a d C ps (ifF ft f g)) :=
  ps_weak (ps_if hc ha hb) fun D σ H ⟨F, π, gx, s, po⟩ => by
    refine ⟨F, π, gx, s, (PoS.split po).mono fun b π1 F1 H1 t s1 p1 => ?_⟩
    cases b with
    | true => exact ⟨F1, π1, wx_le gx t.le, s1, PoS.mono p1 fun fl π2 F2 σ2 H2 t2 s2 k => k.base t⟩
    | false => exact ⟨F1, π1, wx_le gx t.le, s1, PoS.mono p1 fun fl π2 F2 σ2 H2 t2 s2 k => k.base t⟩
theorem k_ret (he : PE X e (tE c (wx c w i a d C ps) fe)) : PS X (.Return (some e) pos) (tK c w i a d C ps (retF fe)) := ps_weak (ps_ret he) fun D σ H ⟨F, π, gx, s, po⟩ => by
  refine ⟨F, π, gx, s, ?_⟩
  unfold retF at po
  cases e0 : fe π with
  | bad => rw [e0] at po; exact po
  | exc C ps π1 => rw [e0] at po; exact fun F' H' d t s => po F' σ H' d t s
  | ok r π1 =>
    rw [e0] at po
    intro F1 H1 t s1 v hr
    cases r with
    | val p => exact po F1 σ H1 t s1 v hr
    | own o =>
      obtain ⟨a, e1, h1, h2, h3, h4⟩ := hr
      exact po F1 σ H1 t s1 v ⟨a, e1, h1, fun z => h2 z.own, h3, h4⟩
    | bor i =>
      have hr' : σ[i]? = some (some v) := hr
      simp only [Out.bind, retR] at po
      cases q : π1[i]? with
      | none => rw [q] at po; exact po.elim
      | some sl =>
        rw [q] at po
        cases sl with
        | no => exact po.elim
        | loan o => exact po.elim
        | val p =>
          obtain ⟨v', e1, h1⟩ := s1.vl i p q
          rw [hr'] at e1
          have e3 : v = v' := Option.some.inj (Option.some.inj e1)
          subst e3
          exact po F1 σ H1 t s1 v h1
        | own o =>
          obtain ⟨a, e1, h1, h2⟩ := s1.ow i _ o q rfl
          rw [hr'] at e1
          have e3 : v = .ref a := Option.some.inj (Option.some.inj e1)
          subst e3
          exact po F1 σ H1 t s1 _ ⟨a, rfl, h1, lent_own s1 q hr', h2, Fr0.back t (.inr ⟨i, _, o, q, rfl, hr'⟩)⟩
theorem k_set (hij : j ≠ i) (hN : X.N.Nodup) (hi : X.N[j]? = some x) (hx : Loc X.env.scope x) (he : PE X e (tE c (wx c w i a d C ps) fe)) (hs : swapsWith e (some (.Name x pos')) pos.line X.env = pure false := by rfl)
    (hf : X.fn x = true ∨ X.env.scope.names.lookup x = some .local := by first | exact .inl rfl | exact .inr rfl | assumption) : PS X (.Assign [.Name x pos'] e pos) (tK c w i a d C ps (setF j fe)) :=
  ps_weak (ps_set hN hi hx he hs hf) fun D σ H ⟨F, π, gx, s, po⟩ => by
    refine ⟨F, π, gx, s, ?_⟩
    unfold setF at po
    cases e0 : fe π with
    | bad => rw [e0] at po; exact po
    | exc C ps π1 => rw [e0] at po; exact fun F' H' d t s => po F' σ H' d t s
    | ok r π1 =>
      rw [e0] at po
      intro F1 H1 t s1 v hr
      obtain ⟨π', k⟩ := set_post s1 hr t po
      exact k (by rw [List.getElem?_set_ne hij]; exact gx.2.1)
/-- the suite whole -/
theorem x_keep (h : PSs X body (tK c w i a d C ps f)) : PSs X body (tX c (wx c w i a d C ps) w f) := pss_weak h fun D σ H ⟨F, π, gx, gg, s, po⟩ => ⟨F, π, gx, s, PoS.mono po fun fl π2 F2 σ2 H2 t2 s2 k => by
  cases fl with
  | nx => exact fun _ => k
  | bk => exact k
  | ct => exact k
  | rt r => exact k⟩
end
/-! e.f by the field's name; isinstance(e, C) -/
section
variable {X : Cx} {c : Ctx} {w : Ws} {a : Addr} {oe : Obj} {d : Option Addr} {pn : List (Addr × Obj)} {x n y : Str} {i k C C2 : Nat} {ps : List P} {pos pos2 p1 p2 p3 : Pos} {b : Bool} {T : String}
theorem look_z {F : Hp} {n : Str} : ∀ (ks : List Str) (ps : List P) (vs : List V), Rps c F ps vs → ∀ (l1 : List (Str × P)) (l2 : List (Str × V)), (∀ p, l1.lookup n = some p → ∃ v, l2.lookup n = some v ∧ Rp c F p v) → (l1.lookup n = none → l2.lookup n = none) →
    (∀ p, ((ks.zip ps).reverse ++ l1).lookup n = some p → ∃ v, ((ks.zip vs).reverse ++ l2).lookup n = some v ∧ Rp c F p v)
  | [], ps, vs, _, l1, l2, h, _ => by simpa using h
  | k :: ks, [], vs, r, l1, l2, h, _ => by
    have e : vs = [] := r
    subst e
    simpa using h
  | k :: ks, p :: ps, vs, r, l1, l2, h, h0 => by
    obtain ⟨v, vs', rfl, r1, r2⟩ := r
    simp only [List.zip_cons_cons, List.reverse_cons, List.append_assoc, List.singleton_append]
    refine look_z ks ps vs' r2 ((k, p) :: l1) ((k, v) :: l2) (fun q e => ?_) (fun e => ?_)
    · by_cases z : n = k
      · subst z
        rw [List.lookup_cons_self] at e ⊢
        cases e
        exact ⟨v, rfl, r1⟩
      · have z' : (n == k) = false := beq_eq_false_iff_ne.mpr z
        rw [List.lookup_cons, z'] at e ⊢
        exact h q e
    · by_cases z : n = k
      · subst z
        rw [List.lookup_cons_self] at e; cases e
      · have z' : (n == k) = false := beq_eq_false_iff_ne.mpr z
        rw [List.lookup_cons, z'] at e ⊢
        exact h0 e
def xfLF (ks : List Str) (n : Str) (ps : List P) : M Rs := fun π => match (ks.zip ps).reverse.lookup n with
  | some p => .ok (.val p) π
  | none => .bad
theorem p_xfL (T : XfC X.K (c.cls C)) (hno : PySem.W.findIn X.K (.ref (c.cls C)) n = some none) (hz : Zc (.ref (c.cls C)) d oe) (hf : ∃ vs, oe.data = .fields vs) (hN : X.N[i]? = some x) (hv : Vis X.env.scope x)
    (hd : (x == ("__debug__" : Str)) = false := by decide) (hcd : (x == ("__classdict__" : Str)) = false := by decide)
    (hb : attributeBase (.Name x pos2) n X.env (eval (.Name x pos2) X.env) = eval (.Name x pos2) X.env := by rfl) :
    PE (X.suite a ((a, oe) :: pn)) (.Attribute (.Name x pos2) n pos) (tE c (wx c w i a d C ps) (xfLF (c.lay C) n ps)) :=
  pe_weak (pe_xf T hno hz hf (pe_var (X := X.suite a ((a, oe) :: pn)) (i := i) hN hv hd hcd) hb) fun σ H Q ⟨F, π, ⟨g0, g1, g2⟩, s, po⟩ => by
    unfold xfLF at po
    refine ⟨.ref a, g1, rfl, rfl, ?_⟩
    cases e4 : ((c.lay C).zip ps).reverse.lookup n with
    | none => rw [e4] at po; exact po.elim
    | some p =>
      rw [e4] at po
      rcases g2 with ⟨e, _⟩ | ⟨b, vs, e1, e2, e3⟩
      · rw [e] at e4; simp at e4
      · obtain ⟨v, e5, r⟩ := look_z (c.lay C) ps vs e3 [] [] (by simp) (by simp) p (by simpa using e4)
        exact ⟨b, _, v, e1, s.le.xd e2, by simpa using e5, po F H .refl s v r⟩
theorem p_isX (E : ExcC X.K (c.cls C)) {cv : Value} {V2 : V} (hV : ∀ u, RelV V2 u → u = cv) (hk : PySem.W.kitOne X.K (.ref (c.cls C)) cv = some b) (hz : Zc (.ref (c.cls C)) d oe) (hf : ∃ vs, oe.data = .fields vs) (hN : X.N[i]? = some x) (hv : Vis X.env.scope x)
    (hc : PE (X.suite a ((a, oe) :: pn)) (.Name y p2) (tC V2)) (hg : Gl X "isinstance") (hm : X.mg "isinstance" = none) (hbb : bootBuiltins "isinstance" = some (.builtin "isinstance"))
    (hd : (x == ("__debug__" : Str)) = false := by decide) (hcd : (x == ("__classdict__" : Str)) = false := by decide)
    (he : starEach [.Name x p1, .Name y p2] X.env = (false, eval (.Name x p1) X.env) :: starEach [.Name y p2] X.env := by rfl) (hpl : (backTo pos (starEach [.Name y p2] X.env)).any (·.1) = false := by rfl)
    (hst : starEach [.Name y p2] X.env = [(false, eval (.Name y p2) X.env)] := by rfl) :
    PE (X.suite a ((a, oe) :: pn)) (.Call (.Name "isinstance" p3) [.Name x p1, .Name y p2] [] pos) (tE c (wx c w i a d C ps) (cF (.bl b))) := by
  have ha : PA (X.suite a ((a, oe) :: pn)) [.Name x p1, .Name y p2] (tCons (tVar i) (tCons (tC V2) tNil)) := pa_cons (pe_var (X := X.suite a ((a, oe) :: pn)) (i := i) hN hv hd hcd) (pa_cons hc pa_nil rfl)
  cases hdd : d with
  | none =>
    subst hdd
    refine pe_weak (pe_callB (X := X.suite a ((a, oe) :: pn)) (call_isE E hz hf) hg hm hbb ha (by decide) (by decide) he hpl) fun σ H Q ⟨F, π, ⟨g0, g1, g2⟩, s, po⟩ => ?_
    exact ⟨.ref a, g1, ⟨V2, cv, b, rfl, hV, hk, po F H .refl s (.bl b) (show Rp c F (.bl b) (.bl b) from mk_bl)⟩⟩
  | some dd =>
    subst hdd
    refine pe_weak (pe_callB (X := X.suite a ((a, oe) :: pn)) (call_isD E hz hf) hg hm hbb ha (by decide) (by decide) he hpl) fun σ H Q ⟨F, π, ⟨g0, g1, g2⟩, s, po⟩ => ?_
    rcases g2 with ⟨_, e⟩ | ⟨b', vs, e1, e2, e3⟩
    · cases e
    · cases e1
      exact ⟨.ref a, g1, ⟨V2, cv, b, _, rfl, s.le.xd e2, hV, hk, po F H .refl s (.bl b) (show Rp c F (.bl b) (.bl b) from mk_bl)⟩⟩
end
end PV

set_option maxHeartbeats 4000000
namespace PV
open PySem PySem.Spec PySem.Calls PyProof.Rows PySem.W L2 PySem.HandSPX
/-! ### an own error made with keywords -/
section
variable {M : Model} {A : Around} {E : Value → Shared → Prop} {h : Heap} {g : Array GenState} {d : Drawn} {t : Nat} {os : OsState}
variable {nm q : Str} {C N : Addr} {bs bm bmB : List Value} {hdct : Bool} {sn : List Str} {sub : List Value} {ab : Bool} {col : Option Bool} {dd : Option Addr} {k0 k1 k2 k3 k5 : Option Value} {B newId initId : String} {kw : List (Str × Value)}
theorem check_new_kw (F : ExcBaseFacts B newId initId bmB) (hT : ∀ X : String, bm.contains (.type X) = bmB.contains (.type X)) {rest : List Value} {Q : Unit → Shared → Prop}
    (hC : h.get? C = some (excClassObj nm q C N bs bm hdct sn sub ab col dd k0 k1 k2 k3 k5 newId)) (hq : Q () ⟨h, g, d, t, os⟩) : wpAny M A (checkBuiltinCall newId ⟨.ref C :: rest, kw⟩) Q E ⟨h, g, d, t, os⟩ := by
  have hcont : (Value.ref C :: bm).contains (.type B) = true := by rw [List.contains_cons, hT, F.hasB, Bool.or_true]
  have hstar := F.noStar
  simp only [checkBuiltinCall, F.newKind, F.newSplit, F.newRow]
  repeat (first | refine wpAny_loadPart_at hC ?_ | (refine wpAny_isSubtype_exc hC ?_; rw [hcont]) | refine wpAny_staticBase_exc hC ?_ | refine wpAny_madeBy_exc hC ?_ | simp only [bne_self_eq_false, Bool.false_eq_true, if_false] | wp_step)
  exact hq
theorem check_type_kw {rest : List Value} {Q : Unit → Shared → Prop} (hC : h.get? C = some (excClassObj nm q C N bs bm hdct sn sub ab col dd k0 k1 k2 k3 k5 newId))
    (hq : Q () ⟨h, g, d, t, os⟩) : wpAny M A (checkBuiltinCall "type.__call__" ⟨.ref C :: rest, kw⟩) Q E ⟨h, g, d, t, os⟩ := by
  have f3 := tc_sub
  have hT : (⟨h, g, d, t, os⟩ : Shared).TypeIs (.ref C) "type" := ⟨_, hC, rfl⟩
  simp only [checkBuiltinCall, tc_kind, tc_split]
  repeat (any_goals (first | assumption | with_reducible refine wpAny_loadPart_at hC ?_ | with_reducible refine wpAny_onRaise ?_ | with_reducible refine wpAny_map ?_ | wp_step))
end
section
variable {prog : Program} {w : World} {A : Around} {E : Value → Shared → Prop} {R : Result → Shared → Prop} {h : Heap} {g : Array GenState} {d : Drawn} {t : Nat} {os : OsState}
variable {nm q : Str} {C N : Addr} {bs bm bmB : List Value} {hdct : Bool} {sn : List Str} {sub : List Value} {ab : Bool} {col : Option Bool} {dd : Option Addr} {k0 k1 k2 k3 k5 : Option Value} {B newId initId : String} {kw : List (Str × Value)}
theorem new_kw (F : ExcBaseFacts B newId initId bmB) (hT : ∀ X : String, bm.contains (.type X) = bmB.contains (.type X)) {rest : List Value}
    (hC : h.get? C = some (excClassObj nm q C N bs bm hdct sn sub ab col dd k0 k1 k2 k3 k5 newId))
    (hq : R (.ok (.ret (.ref (h.objs.size + 1)))) ⟨(h.push { cls := .type "tuple", data := .seq rest.toArray }).push
      { cls := .ref C, data := .fields #[.ref h.objs.size, .none, .none, .none, .bool false, .none] }, g, d, t, os⟩) (hrest : rest.length ≤ sizeLine) :
    codeAny (model prog w) A (.builtin newId ⟨.ref C :: rest, kw⟩) R ⟨h, g, d, t, os⟩ := by
  have hends := F.ends
  have hcB : (Value.ref C :: bm).contains (.type B) = true := by rw [List.contains_cons, hT, F.hasB, Bool.or_true]
  have hcA : (Value.ref C :: bm).contains (.type "AttributeError") = false := by rw [List.contains_cons, hT, F.noAttr]; rfl
  have hcN : (Value.ref C :: bm).contains (.type "NameError") = false := by rw [List.contains_cons, hT, F.noName]; rfl
  refine codeAny_builtinAt F.entry ?_
  unfold Builtin.«BaseException.__new__»
  refine PySem.wpAt_bind ?_
  show PySem.wpAt _ _ _ (stack >>= _) _ _ _
  refine PySem.wpAt_bind (PySem.wpAt_stack fun p below => PySem.wpAt_of_wpAny ?_)
  wp_walk
  refine PySem.wpAt_of_wpAny ?_
  rw [F.owner]
  repeat (first | with_reducible refine wpAny_madeHere_exc F.canon hC ?_ | with_reducible refine wpAny_loadPart_at hC ?_ | (with_reducible refine wpAny_isSubtype_exc hC ?_; first | rw [hcB] | rw [hcA] | rw [hcN]) | wp_step)
  show R _ _
  rw [Heap.size_push]
  exact hq
theorem type_call_kw (F : ExcBaseFacts B newId initId bmB) (hT : ∀ X : String, bm.contains (.type X) = bmB.contains (.type X)) {rest : List Value} {fI : Addr} {Q : Fin → Shared → Prop}
    (hC : h.get? C = some (excClassObj nm q C N bs bm hdct sn sub ab col dd k0 k1 k2 k3 k5 newId))
    (hi : W.Looks (model prog w) h (typeLookup (.ref C) "__init__") (some (.ref fI))) (hb : ∀ self, W.Looks (model prog w) h (bindSpecial (.ref fI) self) (.ref fI, [self])) (hrest : rest.length ≤ sizeLine)
    (hq : codeAny (model prog w) A (.call (.ref fI) ⟨.ref (h.objs.size + 1) :: rest, kw⟩)
      (fun r s' => match r with | .ok (.ret v) => v = .none ∧ Q (.done (.ret (.ref (h.objs.size + 1)))) s' | .ok _ => False | .error e => E e s')
      ⟨(h.push (W.kdv_tup rest)).push (excO C h.objs.size), g, d, t, os⟩) :
    wpAny (model prog w) A (Builtin.«type.__call__» ⟨.ref C :: rest, kw⟩) Q E ⟨h, g, d, t, os⟩ := by
  repeat (first | with_reducible refine wpAny_loadPart_at hC ?_ | with_reducible refine wpAny_madeBy_exc hC ?_ | wp_step)
  refine codeAny_call_builtin_code (Code.quiet_builtin _ F.quiet) (check_new_kw F hT hC ?_)
  refine new_kw F hT hC ?_ hrest
  show wpAny _ _ _ _ _ _
  have k : ∀ b o, h.get? b = some o → ((h.push (W.kdv_tup rest)).push (excO C h.objs.size)).get? b = some o := fun b o e => Heap.get?_push_of_some _ (Heap.get?_push_of_some _ e)
  have hC₁ := k _ _ hC
  have hget : ((h.push (W.kdv_tup rest)).push (excO C h.objs.size)).get? (h.objs.size + 1) = some (excO C h.objs.size) := by heap_get
  have hcC : (Value.ref C :: bm).contains (.ref C) = true := by simp
  have i1 := hi.keeps k
  have b1 := (hb (.ref (h.objs.size + 1))).keeps k
  unfold isInstance
  repeat (first | with_reducible refine wpAny_loadPart_at hget ?_ | (with_reducible refine wpAny_isSubtype_exc hC₁ ?_; rw [hcC]) | wp_step)
  show wpAny _ _ (typeLookup (.ref C) _) _ _ _
  refine i1.at ?_
  refine wpAny_holding (wpAny_bind (b1.at ?_))
  refine wpAny_bind (wpAny_call (codeAny_mono hq fun r s' z => ?_))
  rcases r with e | (v | _ | _ | _) <;> first | exact z | exact z.elim | skip
  obtain ⟨rfl, z⟩ := z
  first
    | exact wpAny_pure (wpAny_pure z)
    | (wp_walk; exact z)
theorem call_kw (F : ExcBaseFacts B newId initId bmB) (hT : ∀ X : String, bm.contains (.type X) = bmB.contains (.type X)) {rest : List Value} {fI : Addr}
    (hC : h.get? C = some (excClassObj nm q C N bs bm hdct sn sub ab col dd k0 k1 k2 k3 k5 newId))
    (hi : W.Looks (model prog w) h (typeLookup (.ref C) "__init__") (some (.ref fI))) (hb : ∀ self, W.Looks (model prog w) h (bindSpecial (.ref fI) self) (.ref fI, [self])) (hrest : rest.length ≤ sizeLine)
    (hq : codeAny (model prog w) (A.under (.builtin "type.__call__" ⟨.ref C :: rest, kw⟩)) (.call (.ref fI) ⟨.ref (h.objs.size + 1) :: rest, kw⟩) (W.InitBack (h.objs.size + 1) R)
      ⟨(h.push (W.kdv_tup rest)).push (excO C h.objs.size), g, d, t, os⟩) :
    codeAny (model prog w) A (.call (.ref C) ⟨rest, kw⟩) R ⟨h, g, d, t, os⟩ := by
  have f1 := tc_lookup
  have f2 := tc_bind (.ref C)
  have hTy : (⟨h, g, d, t, os⟩ : Shared).TypeIs (.ref C) "type" := ⟨_, hC, rfl⟩
  refine codeAny_of_tree ?_
  show wpAny _ _ (callAny (.ref C) _) _ _ _
  repeat (any_goals (first | assumption | with_reducible refine wpAny_loadPart_at hC ?_ | wp_step))
  refine ⟨rfl, ?_⟩
  refine codeAny_call_builtin_at (Code.quiet_builtin _ (by decide +kernel)) entry_typeCall (check_type_kw hC (type_call_kw F hT hC hi hb hrest ?_))
  refine codeAny_mono hq fun r s' z => ?_
  rcases r with e | (v | _ | _ | _) <;> exact z
end
end PV

set_option maxHeartbeats 4000000
namespace PV
open PySem PySem.Spec PyProof.Rows L2 NdefX
/-! ### C(f = e, ..).f, C an own error -/
def tMkX (C : Addr) (m : Nat) (sp : Sp) (gV : List V → List V → List V) (tk : TA) : TE := fun σ H Q => tk σ H fun zs H1 => zs.length = m ∧ ∀ a, H1 a = none → sp (gV [.ref a] zs) (upd H1 a (exo a C none)) (fun v H2 => v = .non ∧ Q (.ref a) H2) (fun _ _ _ => False)
section
variable {X : Cx} {CX : CXT} {k : Nat} {fI C : Addr} {fd : FuncData} {ps ks : List Str} {sp : Sp} {x n : Str} {p pos : Pos} {kws : List Keyword} {tk : TA} {g : List Value → List Value → List Value} {gV : List V → List V → List V}
theorem pe_mkX (T : OexC X.K C) (iC : PySem.W.findIn X.K (.ref C) "__init__" = some (some (.ref fI))) (tI : PySem.W.typeIn X.K (.ref fI) = some (.type "function"))
    (F1 : FnOk X.prog X.w X.K X.mg X.base CX k fI fd ps sp) (hr : Room (k + 1) X.A) (hb : KBn X.K fd ps 1 ks g gV) (hx : Passes CX X (fun _ _ _ => False)) (hg : Gl X x) (hm : X.mg x = some (.ref C)) (hkw : PK X kws tk)
    (hall : (backToKw pos (keywordEach kws X.env)).all (·.1.isSome) = true := by rfl) (hks : (backToKw pos (keywordEach kws X.env)).filterMap (·.1) = ks := by rfl) (hdb : (x == ("__debug__" : Str)) = false := by decide)
    (hpl : ((backTo pos (starEach [] X.env)).any (·.1) || (backToKw pos (keywordEach kws X.env)).any (·.1.isNone)) = false := by rfl) :
    PE X (.Call (.Name x p) [] kws pos) (tMkX C ks.length sp gV tk) := by
  refine ⟨fun pins s σ H Q I h => ?_⟩
  obtain ⟨nm, q, N, bs, bm, sn, sub, ab, col, dd, k0, k1, k2, k3, k5, hC, hbm⟩ := T.cls
  refine wpAny_Call_Name_kw (ld_glob I hg hm ?_ hdb)
  refine PySem.W.callWith_KW0 (h₀ := X.base) I.ok.mod.kin T.kC hall (thn (hkw.run pos pins s σ H _ I h) fun ws s1 ⟨zs, H1, I1, rz, l2, q1⟩ => ⟨I1.kIn, ?_⟩) hpl
  rw [hks]
  show wpAny _ _ (call (.ref C) [] (ks.zip ws)) _ _ _
  obtain ⟨hp, gg, dr, tk', os⟩ := s1
  have hsz : hp.objs.size ≤ hp.objs.size + 1 := Nat.le_succ _
  have hn : H1 (hp.objs.size + 1) = none := I1.hok.fresh hsz
  have hq := q1 (hp.objs.size + 1) hn
  have kk : ∀ b o, hp.get? b = some o → ((hp.push (PySem.W.kdv_tup [])).push (PySem.HandSPX.excO C hp.objs.size)).get? b = some o := fun b o e => Heap.get?_push_of_some _ (Heap.get?_push_of_some _ e)
  have hget : ((hp.push (PySem.W.kdv_tup [])).push (PySem.HandSPX.excO C hp.objs.size)).get? (hp.objs.size + 1) = some (PySem.HandSPX.excO C hp.objs.size) := by heap_get
  have I2 : Inv X pins σ (upd H1 (hp.objs.size + 1) (exo (hp.objs.size + 1) C none)) ⟨(hp.push (PySem.W.kdv_tup [])).push (PySem.HandSPX.excO C hp.objs.size), gg, dr, tk', os⟩ :=
    I1.laid (t' := tk') (a := hp.objs.size + 1) (o := exo (hp.objs.size + 1) C none) (h' := (hp.push (PySem.W.kdv_tup [])).push (PySem.HandSPX.excO C hp.objs.size)) kk hsz (exo_ok hget)
  have e2 : ws.length = ks.length := rz.length.symm.trans l2
  have r1 : Vals [V.ref (hp.objs.size + 1)] [Value.ref (hp.objs.size + 1)] := .cons rfl .nil
  have r2 := hb.rel r1 rz
  refine wpAny_call (call_kw F.excBase_ValueError (fun Y => PySem.HandSPX.refsVE_contains Y bm hbm) (I1.kIn _ _ hC) (PySem.W.looks_findIn I1.kIn iC) (fun self => PySem.W.bind_fn I1.kIn self tI) (Nat.zero_le _)
    (codeAny_mono (F1.run _ X.stack _ _ ⟨[Value.ref (hp.objs.size + 1)], ks.zip ws⟩ (g [Value.ref (hp.objs.size + 1)] ws) _ _ (fun _ _ _ => False) (hr.make C [] (ks.zip ws)) (I2.env0.make C [] (ks.zip ws)) (hb.to _ [Value.ref (hp.objs.size + 1)] ws I2.kIn rfl e2) r2 hq) fun r s' hq' => ?_))
  cases r with
  | error er => exact hx pins σ _ _ er s' I2 hq'
  | ok fl =>
    cases fl with
    | ret u =>
      obtain ⟨v, H', I3, rv, ev, q3⟩ := I2.after hq'
      subst ev
      exact ⟨rv, ⟨V.ref (hp.objs.size + 1), H', I3, rfl, q3⟩⟩
    | next => exact False.elim hq'
    | brk => exact False.elim hq'
    | cont => exact False.elim hq'
/-- e.n, e just made -/
def tXm (C : Addr) (n : Str) (te : TE) : TE := fun σ H Q => te σ H fun x H1 => ∃ (a dd : Addr) (fs : List (Str × V)) (v : V), x = .ref a ∧ H1 a = some (exo a C (some dd)) ∧ H1 dd = some (exd dd fs) ∧ fs.lookup n = some v ∧ Q v H1
theorem pe_xm {e : Expr} {te : TE} (T : XfC X.K C) (hno : PySem.W.findIn X.K (.ref C) n = some none) (he : PE X e te) (hb : attributeBase e n X.env (eval e X.env) = eval e X.env := by rfl) :
    PE X (.Attribute e n pos) (tXm C n te) := by
  refine ⟨fun pins s σ H Q I h => ?_⟩
  refine attr_of hb (thn (he.run pins s σ H _ I h) fun u s1 hh => ?_)
  obtain ⟨x, H1, I1, rx, a, dd, fs, v, ex, ea, ed, l, q⟩ := hh
  subst ex
  obtain rfl : u = Value.ref a := rx
  obtain ⟨t1, ha⟩ := exo_at I1.hok ea
  obtain ⟨mA, hns, hr⟩ := exd_at I1.hok ed
  obtain ⟨od, ho, hl⟩ := lookIn_ns hns
  obtain ⟨u, hu, ru⟩ := RelO.some_of (v := v) (o := mA n) (by rw [← l]; exact hr n)
  have J : PySem.W.InstAt s1.heap a _ C (some od) := ⟨ha, rfl, by unfold PySem.W.notCls; rfl, ho⟩
  exact HandSPX.exc_get I1.kIn J T.ga T.gg T.exC (PySem.W.findObj_own T.hdC hno rfl (by rw [hl, hu])) (handed_of ru) ⟨v, H1, I1.tok _, ru, q⟩
end
end PV

set_option maxHeartbeats 4000000
namespace PV
open PySem PySem.Spec PyProof.Rows L2 NdefX
/-! ### the arguments by keywords, the combinator -/
theorem pk_weak {X : Cx} {kws : List Keyword} {t t' : TA} (h : PK X kws t) (k : ∀ σ H Q, t' σ H Q → t σ H Q) : PK X kws t' := ⟨fun pos pins s σ H Q I q => h.run pos pins s σ H Q I (k _ _ _ q)⟩
section
variable {X : Cx} {c : Ctx} {w : Wi} {a : Expr} {kws : List Keyword} {nm : Option Str} {kpos : Pos} {f : M Rs} {fs : M (List Rs)}
theorem kr_nil : PK X [] (tR c w nilF) := pk_weak pk_nil fun σ H Q ⟨F, π, gg, s, po⟩ => po F H .refl s [] rfl
theorem kr_cons (ha : PE X a (tE c w f)) (hr : PK X kws (tR c w fs)) : PK X (⟨nm, a, kpos⟩ :: kws) (tR c w (consF f fs)) :=
  pk_weak (pk_cons ha hr) fun σ H Q ⟨F, π, gg, s, po⟩ => by
    refine ⟨F, π, gg, s, (Po.split po).mono fun r1 π1 F1 H1 t1 s1 p1 x hx => ⟨F1, π1, w.mono _ _ t1.le gg, s1, (Po.split p1).mono fun rs π2 F2 H2 t2 s2 p2 xs hxs => ?_⟩⟩
    exact p2 F2 H2 .refl s2 (x :: xs) ⟨x, xs, rfl, hx.step t2, hxs.base t1⟩
end
structure ExKK (P : Program) (w : World) (K : PySem.W.Frag) (mg : Str → Option Value) (base : Heap) (c : Ctx) (k C : Nat) (x : Str) (ps ks : List Str) (rv : Bool) : Prop where
  oex : OexC K (c.cls C)
  ini : ∃ fI fd, PySem.W.findIn K (.ref (c.cls C)) "__init__" = some (some (.ref fI)) ∧ PySem.W.typeIn K (.ref fI) = some (.type "function") ∧ FnOk P w K mg base (L2.CX P w) k fI fd ps (spI (c.cls C) ks.length (c.lay C)) ∧
    KBn K fd ps 1 ks (fun us ws => us ++ (if rv = true then ws.reverse else ws)) (fun us ws => us ++ (if rv = true then ws.reverse else ws))
  mg : mg x = some (.ref (c.cls C))
def mkxR (ks : List Str) (n : Nat) (rv : Bool) (nm : Str) (rs : List Rs) : M Rs := fun π => match vals rs with
  | some ps => if ps.length = n ∧ n ≤ 1000 then (match (ks.zip (if rv = true then ps.reverse else ps)).reverse.lookup nm with | some p => .ok (.val p) π | none => .bad) else .bad
  | none => .bad
def mkxF (ks : List Str) (n : Nat) (rv : Bool) (nm : Str) (fa : M (List Rs)) : M Rs := fun π => (fa π).bind (mkxR ks n rv nm)
theorem rps_rev {c : Ctx} {F : Hp} : ∀ {ps : List P} {vs : List V} {qs : List P} {ws : List V}, Rps c F ps vs → Rps c F qs ws → Rps c F (ps.reverse ++ qs) (vs.reverse ++ ws)
  | [], vs, qs, ws, r, r2 => by
    have e : vs = [] := r
    subst e
    exact r2
  | p :: ps, vs, qs, ws, r, r2 => by
    obtain ⟨v, vs', rfl, r1, r3⟩ := r
    simp only [List.reverse_cons, List.append_assoc, List.singleton_append]
    exact rps_rev r3 ⟨v, ws, rfl, r1, r2⟩
theorem p_mkx {X : Cx} {c : Ctx} {w : Wi} {k C : Nat} {x nm : Str} {ps ks : List Str} {rv : Bool} {kws : List Keyword} {p pos pos2 : Pos} {fa : M (List Rs)} (E : ExKK X.prog X.w X.K X.mg X.base c k C x ps ks rv) (hr : Room (k + 1) X.A) (hg : Gl X x)
    (T : XfC X.K (c.cls C)) (hno : PySem.W.findIn X.K (.ref (c.cls C)) nm = some none) (hkw : PK X kws (tR c w fa))
    (hall : (backToKw pos (keywordEach kws X.env)).all (·.1.isSome) = true := by rfl) (hks : (backToKw pos (keywordEach kws X.env)).filterMap (·.1) = ks := by rfl) (hdb : (x == ("__debug__" : Str)) = false := by decide)
    (hpl : ((backTo pos (starEach [] X.env)).any (·.1) || (backToKw pos (keywordEach kws X.env)).any (·.1.isNone)) = false := by rfl)
    (hb : attributeBase (.Call (.Name x p) [] kws pos) nm X.env (eval (.Call (.Name x p) [] kws pos) X.env) = eval (.Call (.Name x p) [] kws pos) X.env := by rfl) :
    PE X (.Attribute (.Call (.Name x p) [] kws pos) nm pos2) (tE c w (mkxF (c.lay C) ks.length rv nm fa)) := by
  obtain ⟨fI, fd, iC, tI, F1, hbn⟩ := E.ini
  refine pe_weak (pe_xm T hno (pe_mkX E.oex iC tI F1 hr hbn passL hg E.mg hkw hall hks hdb hpl) hb) fun σ H Q ⟨F, π, gg, s, po⟩ => ?_
  refine ⟨F, π, gg, s, (Po.split po).mono fun rs π1 F1 H1 t1 s1 p1 zs hz => ?_⟩
  unfold mkxR at p1
  cases e1 : vals rs with
  | none => rw [e1] at p1; exact p1.elim
  | some qs =>
    rw [e1] at p1
    by_cases hn : qs.length = ks.length ∧ ks.length ≤ 1000
    case neg => simp only [if_neg hn] at p1; exact p1.elim
    simp only [if_pos hn] at p1
    have rv1 := vals_rps hz e1
    have hl := rps_len rv1
    cases e4 : ((c.lay C).zip (if rv = true then qs.reverse else qs)).reverse.lookup nm with
    | none => rw [e4] at p1; exact p1.elim
    | some q =>
      rw [e4] at p1
      have rv2 : Rps c F1 (if rv = true then qs.reverse else qs) (if rv = true then zs.reverse else zs) := by
        cases rv with
        | true => simpa using rps_rev rv1 (show Rps c F1 [] [] from rfl)
        | false => exact rv1
      obtain ⟨v, e5, r⟩ := look_z (c.lay C) _ _ rv2 [] [] (by simp) (by simp) q (by simpa using e4)
      refine ⟨by omega, fun a ha => ⟨a, (if rv = true then zs.reverse else zs), by simp, by cases rv with | true => (simp; omega) | false => exact (by simp; omega), upd_same, fun d H2 hd hda e2 e3 e6 => ⟨rfl, a, d, _, v, rfl, e2, e3, by simpa using e5, ?_⟩⟩⟩
      rw [upd_ne hda] at hd
      have eu : H2 = upd (upd H1 a (exo a (c.cls C) (some d))) d (exd d ((c.lay C).zip (if rv = true then zs.reverse else zs)).reverse) := by
        funext b
        by_cases z : b = d
        · subst z; rw [upd_same, e3]
        · rw [upd_ne z]
          by_cases y : b = a
          · subst y; rw [upd_same, e2]
          · rw [upd_ne y, e6 b y z, upd_ne y]
      have gr : Gr F1 H1 F1 H2 := ⟨Le.refl F1, by rw [eu]; exact (s1.le.trans (Le.new _ ha)).trans (Le.new _ (by rw [upd_ne hda]; exact hd)), fun b o e => by rw [eu, upd_ne (ne_of_none e hd), upd_ne (ne_of_none e ha)]; exact e, fun b e => .inl e⟩
      exact p1 _ _ (gr.tr) (gr.sr s1) v r
theorem p_mkxE {X : Cx} {c : Ctx} {w : Wi} {k C n : Nat} {x nm : Str} {ps ks L : List Str} {rv : Bool} {kws : List Keyword} {p pos pos2 : Pos} {fa : M (List Rs)} (hr : Room (k + 1) X.A) (E : ExKK X.prog X.w X.K X.mg X.base c k C x ps ks rv) (hg : Gl X x)
    (T : XfC X.K (c.cls C)) (hno : PySem.W.findIn X.K (.ref (c.cls C)) nm = some none) (hkw : PK X kws (tR c w fa)) (hL : c.lay C = L) (hn : ks.length = n)
    (hall : (backToKw pos (keywordEach kws X.env)).all (·.1.isSome) = true := by rfl) (hks : (backToKw pos (keywordEach kws X.env)).filterMap (·.1) = ks := by rfl) (hdb : (x == ("__debug__" : Str)) = false := by decide)
    (hpl : ((backTo pos (starEach [] X.env)).any (·.1) || (backToKw pos (keywordEach kws X.env)).any (·.1.isNone)) = false := by rfl)
    (hb : attributeBase (.Call (.Name x p) [] kws pos) nm X.env (eval (.Call (.Name x p) [] kws pos) X.env) = eval (.Call (.Name x p) [] kws pos) X.env := by rfl) :
    PE X (.Attribute (.Call (.Name x p) [] kws pos) nm pos2) (tE c w (mkxF L n rv nm fa)) := by
  subst hL hn
  exact p_mkx E hr hg T hno hkw hall hks hdb hpl hb
end PV

set_option maxHeartbeats 4000000
namespace PV
open PySem PySem.Spec PyProof.Rows L2 NdefX
/-! ### raise C(), C an own error without an __init__ of its own -/
section
variable {X : Cx} {C : Addr} {bmB : List Value} {B newId initId : String}
theorem pmk_own0 {x : Str} {p pos : Pos} (F : ExcBaseFacts B newId initId bmB) (q : PySem.W.excIn X.K C bmB newId = true) (gC : X.mg x = some (.ref C)) (kC : PySem.W.keepIn X.K (.ref C) = true) (r : Raises X (.ref C)) (hg : Gl X x)
    (hdb : (x == ("__debug__" : Str)) = false := by decide) : PMk X (.Call (.Name x p) [] [] pos) (fun _ H Q => Q (.ref C) none H) := by
  intro pins s σ H Q I h
  refine wpAny_Call_Name_kw (ld_glob I hg gC ?_ hdb)
  refine PySem.W.callWith_K0 I.kIn kC ?_
  show wpAny _ _ (call (.ref C) []) _ _ _
  obtain ⟨hp1, g1, d1, tk1, os1⟩ := s
  obtain ⟨bm, N, nm, qn, bs, hdct, sn, sub, ab, col, dd, k0, k1, k2, k3, k5, mN, hC, hN, hni, T⟩ := exc_obj I.kIn q
  refine wpAny_call_exc_subT F T hC hN hni (fun h' e hm => ?_) (Nat.zero_le _)
  exact mk_of I hm r h (I.hok.gone hm.new)
end
def raise0F (C : Nat) : M Fl := fun π => .exc C [] π
theorem s_raise0 {X : Cx} {c : Ctx} {w : Ws} {C : Nat} {x : Str} {p pos pos2 : Pos} {bmB : List Value} {B newId initId : String} (hc : X.calm = true) (tk : Takes X w.W) (F : ExcBaseFacts B newId initId bmB) (q : PySem.W.excIn X.K (c.cls C) bmB newId = true) (hm : X.mg x = some (.ref (c.cls C)))
    (kC : PySem.W.keepIn X.K (.ref (c.cls C)) = true) (r : Raises X (.ref (c.cls C))) (hg : Gl X x) (hl : c.lay C = []) (hdb : (x == ("__debug__" : Str)) = false := by decide) :
    PS X (.Raise (some (.Call (.Name x p) [] [] pos)) none pos2) (tS c w (raise0F C)) :=
  ps_weak (ps_raise hc tk (pmk_own0 F q hm kC r hg hdb)) fun D σ H ⟨F, π, gg, s, po⟩ => po F σ H none .refl s (.inl ⟨hl, rfl⟩)
/-! ### kitOne from subIn -/
theorem kit_ref {K : PySem.W.Frag} {a b : Addr} {v : Bool} (h : PySem.W.subIn K (.ref a) (.ref b) = some v) (hb : PySem.W.subIn K (.ref b) (.ref b) = some true) (hd : PySem.W.hasDictIn K b = true) (ht : PySem.W.typeIn K (.ref b) = some (.type "type")) : PySem.W.kitOne K (.ref a) (.ref b) = some v := by
  unfold PySem.W.kitOne PySem.W.kitCls
  by_cases z : a = b
  · subst z
    rw [hb] at h
    cases h
    rw [if_pos (beq_self_eq_true _)]
  · rw [if_neg (fun q => z (Value.ref.inj (eq_of_beq q)))]
    obtain ⟨cd, hc, _⟩ := PySem.W.any_some hd
    simp only [hc, ht, Option.isSome_some, Bool.true_and, beq_self_eq_true, if_true]
    exact h
theorem kit_bt {K : PySem.W.Frag} {a : Addr} {T : String} {v : Bool} (hm : PySem.W.kitMeta T = true) (h : PySem.W.subIn K (.ref a) (.type T) = some v) : PySem.W.kitOne K (.ref a) (.type T) = some v := by
  unfold PySem.W.kitOne PySem.W.kitCls
  rw [if_neg (fun q => by have := eq_of_beq q; cases this)]
  simp only [hm, if_true]
  exact h
theorem vals_rev : ∀ {vs : List V} {us : List Value} {zs : List V} {ws : List Value}, Vals vs us → Vals zs ws → Vals (vs.reverse ++ zs) (us.reverse ++ ws)
  | _, _, _, _, .nil, r2 => r2
  | _, _, _, _, .cons r1 r, r2 => by
    simp only [List.reverse_cons, List.append_assoc, List.singleton_append]
    exact vals_rev r (.cons r1 r2)
theorem vals_kw {rv : Bool} {vs : List V} {us : List Value} {zs : List V} {ws : List Value} (r1 : Vals vs us) (r2 : Vals zs ws) : Vals (vs ++ (if rv = true then zs.reverse else zs)) (us ++ (if rv = true then ws.reverse else ws)) := by
  cases rv with
  | true => exact r1.append (by simpa using vals_rev r2 (show Vals [] [] from .nil))
  | false => exact r1.append r2
end PV

set_option maxHeartbeats 4000000
namespace PV
open PySem PySem.Spec L2 PyProof.Rows
abbrev clsOf : List Addr → Nat → Addr := fun l n => l.getD n 0
def lay_k09 : Nat → List Str
  | 0 => []
  | 1 => ["value"]
  | 2 => ["value"]
  | 3 => ["index"]
  | 4 => ["value"]
  | 5 => ["line"]
  | 6 => ["limit"]
  | 7 => ["value"]
  | 8 => ["value"]
  | 9 => ["reason", "names"]
  | 10 => []
  | _ => []
abbrev cx (K : PySem.W.Frag) (cls fna : Nat → Addr) : Ctx := ⟨K, cls, lay_k09, fna, false⟩
def sub_k09 (a b : Nat) : Bool := (a == 0 && b == 0) || (a == 1 && b == 1) || (a == 1 && b == 0) || (a == 2 && b == 2) || (a == 2 && b == 0) || (a == 3 && b == 3) || (a == 3 && b == 0) || (a == 4 && b == 4) || (a == 4 && b == 0) || (a == 5 && b == 5) || (a == 5 && b == 0) || (a == 6 && b == 6) || (a == 6 && b == 0) || (a == 7 && b == 7) || (a == 7 && b == 0) || (a == 8 && b == 8) || (a == 8 && b == 0) || (a == 9 && b == 9) || (a == 9 && b == 0) || (a == 10 && b == 10) || (a == 10 && b == 0)
noncomputable def B_law_alike (Fd : FN) : M Fl := seqF (ifF (tstF (calF isiP' (consF (varF 1) (consF (tupF (consF (cF (.ty "tuple")) (consF (cF (.ty "list")) (nilF)))) (nilF))))) (seqF (ifF (orF (notF (tstF (calF isiP' (consF (varF 0) (consF (tupF (consF (cF (.ty "tuple")) (consF (cF (.ty "list")) (nilF)))) (nilF)))))) (tstF (binF neP (calF isiP' (consF (varF 0) (consF (cF (.ty "list")) (nilF)))) (calF isiP' (consF (varF 1) (consF (cF (.ty "list")) (nilF))))))) (retF (cF (.bl false))) (skipF))
  (seqF (ifF (tstF (binF neP (calF lenP (consF (varF 0) (nilF))) (calF lenP (consF (varF 1) (nilF))))) (retF (cF (.bl false))) (skipF))
  (retF (binF eqP (lcF (rng1F (consF (calF lenP (consF (varF 1) (nilF))) (nilF))) (nameT 2) (notF (tstF (callF Fd (consF (binF ixP (varF 0) (varF 2)) (consF (binF ixP (varF 1) (varF 2)) (nilF)))))) (takeF (varF 2)) [2]) (lstF (nilF)))))) (skipF))
  (seqF (ifF (orF (tstF (binF (isNP false) (varF 1) (cF .non))) (tstF (calF isiP' (consF (varF 1) (consF (cF (.ty "str")) (nilF)))))) (retF (andVF (binF eqP (varF 0) (varF 1)) (binF eqP (calF isiP' (consF (varF 0) (consF (cF (.ty "str")) (nilF)))) (calF isiP' (consF (varF 1) (consF (cF (.ty "str")) (nilF))))))) (skipF))
  (retF (andVF (calF isiP' (consF (varF 0) (consF (cF (.ty "int")) (nilF)))) (andVF (binF eqP (calF isiP' (consF (varF 0) (consF (cF (.ty "bool")) (nilF)))) (calF isiP' (consF (varF 1) (consF (cF (.ty "bool")) (nilF))))) (binF eqP (varF 0) (varF 1))))))
noncomputable def F_law_alike : Nat → FN
  | 0 => fun _ => .bad
  | d + 1 => fnF 1 (B_law_alike (F_law_alike d))
noncomputable def B_law_taken : M Fl := seqF (ifF (tstF (binF gtP (binF ixP (varF 0) (cF (.int 3))) (cF (.int 0)))) (seqF (setF 3 (binF modP (calF intP (consF (binF ixP (varF 0) (cF (.int 3))) (nilF))) (varF 1)))
  (seqF (stF 0 (takeF (binF fdivP (binF ixP (varF 0) (cF (.int 3))) (varF 1))) (cF (.int 3)))
  (retF (varF 3)))) (skipF))
  (seqF (stF 0 (takeF (binF addP (binF ixP (varF 0) (cF (.int 1))) (cF (.int 1)))) (cF (.int 1)))
  (seqF (ifF (tstF (binF gtP (binF ixP (varF 0) (cF (.int 1))) (calF lenP (consF (binF ixP (varF 0) (cF (.int 0))) (nilF))))) (seqF (stF 0 (takeF (binF modP (calF intP (consF (binF addP (binF mulP (binF ixP (varF 0) (cF (.int 2))) (cF (.int 48271))) (cF (.int 11))) (nilF))) (cF (.int 2147483647)))) (cF (.int 2)))
  (retF (binF modP (calF intP (consF (binF fdivP (binF ixP (varF 0) (cF (.int 2))) (cF (.int 7))) (nilF))) (varF 1)))) (skipF))
  (seqF (setF 2 (binF ixP (binF ixP (varF 0) (cF (.int 0))) (binF subP (binF ixP (varF 0) (cF (.int 1))) (cF (.int 1)))))
  (seqF (stF 0 (takeF (binF modP (calF intP (consF (binF addP (binF addP (binF mulP (binF ixP (varF 0) (cF (.int 2))) (cF (.int 48271))) (varF 2)) (cF (.int 11))) (nilF))) (cF (.int 2147483647)))) (cF (.int 2)))
  (seqF (ifF (tstF (binF geP (varF 2) (binF powP (cF (.int 10)) (cF (.int 18))))) (stF 0 (takeF (binF fdivP (varF 2) (varF 1))) (cF (.int 3))) (skipF))
  (retF (binF modP (calF intP (consF (varF 2) (nilF))) (varF 1))))))))
noncomputable def F_law_taken : FN := fnF 2 B_law_taken
noncomputable def B_law_pick : M Fl := retF (binF ixP (varF 1) (callF (F_law_taken) (consF (varF 0) (consF (calF lenP (consF (varF 1) (nilF))) (nilF)))))
noncomputable def F_law_pick : FN := fnF 0 B_law_pick
noncomputable def B_law_raised : M Fl := tryF sub_k09 11 3 0 (seqF (ifF (tstF (binF eqP (varF 0) (cF (.int 0)))) (raiseF 1 1 (consF (valF (takeF (varF 1))) (nilF))) (skipF))
  (seqF (ifF (tstF (binF eqP (varF 0) (cF (.int 1)))) (raiseF 2 1 (consF (valF (takeF (varF 1))) (nilF))) (skipF))
  (seqF (ifF (tstF (binF eqP (varF 0) (cF (.int 2)))) (raiseF 3 1 (consF (valF (takeF (varF 1))) (nilF))) (skipF))
  (seqF (ifF (tstF (binF eqP (varF 0) (cF (.int 3)))) (raiseF 4 1 (consF (valF (takeF (varF 1))) (nilF))) (skipF))
  (seqF (ifF (tstF (binF eqP (varF 0) (cF (.int 4)))) (raiseF 5 1 (consF (valF (takeF (varF 1))) (nilF))) (skipF))
  (seqF (ifF (tstF (binF eqP (varF 0) (cF (.int 5)))) (raiseF 6 1 (consF (valF (takeF (varF 1))) (nilF))) (skipF))
  (seqF (ifF (tstF (binF eqP (varF 0) (cF (.int 6)))) (raiseF 7 1 (consF (valF (takeF (varF 1))) (nilF))) (skipF))
  (seqF (ifF (tstF (binF eqP (varF 0) (cF (.int 7)))) (raiseF 8 1 (consF (valF (takeF (varF 1))) (nilF))) (skipF))
  (seqF (ifF (tstF (binF eqP (varF 0) (cF (.int 8)))) (raiseF 9 2 (consF (valF (takeF (varF 1))) (consF (valF (takeF (varF 2))) (nilF)))) (skipF))
  (raise0F 10)))))))))) (fun C' ps => seqF (setF 4 (lstF (consF (cF (.bl (sub_k09 C' 1))) (consF (cF (.bl (sub_k09 C' 2))) (consF (cF (.bl (sub_k09 C' 3))) (consF (cF (.bl (sub_k09 C' 4))) (consF (cF (.bl (sub_k09 C' 5))) (nilF)))))))) (seqF (setF 4 (binF addP (varF 4) (lstF (consF (cF (.bl (sub_k09 C' 6))) (consF (cF (.bl (sub_k09 C' 7))) (consF (cF (.bl (sub_k09 C' 8))) (consF (cF (.bl (sub_k09 C' 9))) (consF (cF (.bl (sub_k09 C' 10))) (nilF))))))))) (seqF (ifF (orF (notF (tstF (cF (.bl true)))) (orF (tstF (cF (.bl false))) (tstF (cF (.bl false))))) (retF (cF .non)) (skipF)) (seqF (setF 5 (cF .non)) (seqF (ifF (tstF (binF (inXP false) (varF 0) (lstF (consF (cF (.int 0)) (consF (cF (.int 1)) (consF (cF (.int 3)) (consF (cF (.int 6)) (consF (cF (.int 7)) (nilF))))))))) (setF 5 (xfLF (lay_k09 C') "value" ps)) (skipF)) (seqF (ifF (tstF (binF eqP (varF 0) (cF (.int 2)))) (setF 5 (xfLF (lay_k09 C') "index" ps)) (skipF)) (seqF (ifF (tstF (binF eqP (varF 0) (cF (.int 4)))) (setF 5 (xfLF (lay_k09 C') "line" ps)) (skipF)) (seqF (ifF (tstF (binF eqP (varF 0) (cF (.int 5)))) (setF 5 (xfLF (lay_k09 C') "limit" ps)) (skipF)) (seqF (ifF (tstF (binF eqP (varF 0) (cF (.int 8)))) (setF 5 (tupF (consF (xfLF (lay_k09 C') "reason" ps) (consF (xfLF (lay_k09 C') "names" ps) (nilF))))) (skipF)) (retF (tupF (consF (valF (takeF (varF 4))) (consF (valF (takeF (varF 5))) (nilF))))))))))))))
noncomputable def F_law_raised : FN := fnF 3 B_law_raised
noncomputable def lc_law_1 : M Rs := lcF (rng1F (consF (cF (.int 10)) (nilF))) (nameT 8) (yesF) (takeF (binF eqP (varF 8) (varF 2))) [8]
noncomputable def fr_law_1 : M Fl := forF (rng1F (consF (cF (.int 10)) (nilF))) (nameT 2) (seqF (setF 4 (callF (F_law_pick) (consF (varF 1) (consF (valF (takeF (lstF (consF (cF .non) (consF (cF (.int 7)) (consF (cF (.str "x")) (consF (tupF (consF (cF (.int 1)) (consF (cF (.int 2)) (nilF)))) (consF (cF (.bl true)) (consF (valF (takeF (callF (F_law_taken) (consF (varF 1) (consF (valF (takeF (binF powP (cF (.int 10)) (cF (.int 9))))) (nilF)))))) (nilF)))))))))) (nilF)))))
  (seqF (setF 5 (callF (F_law_pick) (consF (varF 1) (consF (valF (takeF (lstF (consF (tupF (nilF)) (consF (tupF (consF (cF (.str "a")) (nilF))) (nilF)))))) (nilF)))))
  (seqF (setF 6 (callF (F_law_raised) (consF (valF (takeF (varF 2))) (consF (valF (takeF (varF 4))) (consF (valF (takeF (varF 5))) (nilF))))))
  (seqF (ifF (orF (tstF (binF (isNP false) (varF 6) (cF .non))) (tstF (binF neP (binF ixP (varF 6) (cF (.int 0))) (lc_law_1)))) (retF (cF (.bl false))) (skipF))
  (seqF (setF 7 (valF (takeF (varF 4))))
  (seqF (ifF (tstF (binF eqP (varF 2) (cF (.int 8)))) (setF 7 (tupF (consF (valF (takeF (varF 4))) (consF (valF (takeF (varF 5))) (nilF))))) (skipF))
  (ifF (andF (tstF (binF ltP (varF 2) (cF (.int 9)))) (orF (tstF (binF neP (binF ixP (varF 6) (cF (.int 1))) (varF 7))) (tstF (binF neP (calF isiP' (consF (binF ixP (varF 6) (cF (.int 1))) (consF (cF (.ty "bool")) (nilF)))) (calF isiP' (consF (varF 7) (consF (cF (.ty "bool")) (nilF)))))))) (retF (cF (.bl false))) (skipF))))))))
noncomputable def Slaw1 : M Fl := setF 1 (lstF (consF (valF (takeF (varF 0))) (consF (cF (.int 0)) (consF (cF (.int 53)) (consF (cF (.int 0)) (nilF))))))
noncomputable def Slaw2 : M Fl := fr_law_1
noncomputable def Slaw3 : M Fl := setF 3 (lstF (consF (mkxF (lay_k09 1) 1 false "value" (consF (valF (takeF (cF (.int 1)))) (nilF))) (consF (mkxF (lay_k09 2) 1 false "value" (consF (valF (takeF (cF (.str "a")))) (nilF))) (consF (mkxF (lay_k09 3) 1 false "index" (consF (valF (takeF (cF (.int 4)))) (nilF))) (consF (mkxF (lay_k09 4) 1 false "value" (consF (valF (takeF (cF (.int 5)))) (nilF))) (consF (mkxF (lay_k09 5) 1 false "line" (consF (valF (takeF (cF (.int 6)))) (nilF))) (nilF)))))))
noncomputable def Slaw4 : M Fl := setF 3 (binF addP (varF 3) (lstF (consF (mkxF (lay_k09 6) 1 false "limit" (consF (valF (takeF (cF (.int 7)))) (nilF))) (consF (mkxF (lay_k09 7) 1 false "value" (consF (valF (takeF (cF (.int 8)))) (nilF))) (consF (mkxF (lay_k09 8) 1 false "value" (consF (valF (takeF (cF (.int 9)))) (nilF))) (consF (mkxF (lay_k09 9) 2 false "names" (consF (valF (takeF (cF (.str "r")))) (consF (valF (takeF (cF (.int 11)))) (nilF)))) (consF (mkxF (lay_k09 9) 2 true "reason" (consF (valF (takeF (cF (.int 1)))) (consF (valF (takeF (cF (.str "s")))) (nilF)))) (nilF))))))))
noncomputable def Slaw5 : M Fl := retF (callF (F_law_alike 5) (consF (valF (takeF (varF 3))) (consF (valF (takeF (lstF (consF (cF (.int 1)) (consF (cF (.str "a")) (consF (cF (.int 4)) (consF (cF (.int 5)) (consF (cF (.int 6)) (consF (cF (.int 7)) (consF (cF (.int 8)) (consF (cF (.int 9)) (consF (cF (.int 11)) (consF (cF (.str "s")) (nilF)))))))))))))) (nilF))))
noncomputable def Blaw : M Fl := seqF Slaw1 (seqF Slaw2 (seqF Slaw3 (seqF Slaw4 (Slaw5))))
noncomputable def Flaw : FN := fnF 8 Blaw
def top (i : Nat) : Stmt := PySem.Challenge.pw_huttohut_k09_errors.main.body.getD i (.Pass ⟨0, 0, 0, 0⟩)
structure Txt (K : PySem.W.Frag) (mg : Str → Option Value) (cls fna : Nat → Addr) : Prop where
  LookupError : mg "LookupError" = none
  RuntimeError : mg "RuntimeError" = none
  ValueError : mg "ValueError" = none
  bool_ : mg "bool" = none
  int_ : mg "int" = none
  isinstance : mg "isinstance" = none
  len : mg "len" = none
  list : mg "list" = none
  range : mg "range" = none
  str_ : mg "str" = none
  tuple : mg "tuple" = none
  mg_HutsError : mg "HutsError" = some (.ref (cls 0))
  xf_HutsError : XfC K (cls 0)
  exm_HutsError : ∀ C', C' < 11 → PySem.W.exmOne K (.ref (cls C')) (.ref (cls 0)) = some (sub_k09 C' 0)
  mg0_HutsError : mg "HutsError" = some (.ref (cls 0))
  mg0_BadNumber : mg "BadNumber" = some (.ref (cls 1))
  mg0_BadName : mg "BadName" = some (.ref (cls 2))
  mg0_BadItem : mg "BadItem" = some (.ref (cls 3))
  mg0_BadEvent : mg "BadEvent" = some (.ref (cls 4))
  mg0_BadNote : mg "BadNote" = some (.ref (cls 5))
  mg0_TooMany : mg "TooMany" = some (.ref (cls 6))
  mg0_Unknown : mg "Unknown" = some (.ref (cls 7))
  mg0_Taken : mg "Taken" = some (.ref (cls 8))
  mg0_Refused : mg "Refused" = some (.ref (cls 9))
  mg0_NothingToUndo : mg "NothingToUndo" = some (.ref (cls 10))
  xfa : ∀ C', C' < 11 → XfC K (cls C')
  exa : ∀ C', C' < 11 → ExcC K (cls C')
  noa_index : ∀ C', C' < 11 → PySem.W.findIn K (.ref (cls C')) "index" = some none
  noa_limit : ∀ C', C' < 11 → PySem.W.findIn K (.ref (cls C')) "limit" = some none
  noa_line : ∀ C', C' < 11 → PySem.W.findIn K (.ref (cls C')) "line" = some none
  noa_names : ∀ C', C' < 11 → PySem.W.findIn K (.ref (cls C')) "names" = some none
  noa_reason : ∀ C', C' < 11 → PySem.W.findIn K (.ref (cls C')) "reason" = some none
  noa_value : ∀ C', C' < 11 → PySem.W.findIn K (.ref (cls C')) "value" = some none
  ki_BadEvent : ∀ C', C' < 11 → PySem.W.kitOne K (.ref (cls C')) (.ref (cls 4)) = some (sub_k09 C' 4)
  ki_BadItem : ∀ C', C' < 11 → PySem.W.kitOne K (.ref (cls C')) (.ref (cls 3)) = some (sub_k09 C' 3)
  ki_BadName : ∀ C', C' < 11 → PySem.W.kitOne K (.ref (cls C')) (.ref (cls 2)) = some (sub_k09 C' 2)
  ki_BadNote : ∀ C', C' < 11 → PySem.W.kitOne K (.ref (cls C')) (.ref (cls 5)) = some (sub_k09 C' 5)
  ki_BadNumber : ∀ C', C' < 11 → PySem.W.kitOne K (.ref (cls C')) (.ref (cls 1)) = some (sub_k09 C' 1)
  ki_NothingToUndo : ∀ C', C' < 11 → PySem.W.kitOne K (.ref (cls C')) (.ref (cls 10)) = some (sub_k09 C' 10)
  ki_Refused : ∀ C', C' < 11 → PySem.W.kitOne K (.ref (cls C')) (.ref (cls 9)) = some (sub_k09 C' 9)
  ki_Taken : ∀ C', C' < 11 → PySem.W.kitOne K (.ref (cls C')) (.ref (cls 8)) = some (sub_k09 C' 8)
  ki_TooMany : ∀ C', C' < 11 → PySem.W.kitOne K (.ref (cls C')) (.ref (cls 6)) = some (sub_k09 C' 6)
  ki_Unknown : ∀ C', C' < 11 → PySem.W.kitOne K (.ref (cls C')) (.ref (cls 7)) = some (sub_k09 C' 7)
  kb_LookupError : ∀ C', C' < 11 → PySem.W.kitOne K (.ref (cls C')) (.type "LookupError") = some false
  kb_RuntimeError : ∀ C', C' < 11 → PySem.W.kitOne K (.ref (cls C')) (.type "RuntimeError") = some false
  kb_ValueError : ∀ C', C' < 11 → PySem.W.kitOne K (.ref (cls C')) (.type "ValueError") = some true
  x0_NothingToUndo : PySem.W.excIn K (cls 10) [.type "ValueError", .type "Exception", .type "BaseException", .type "object"] "ValueError.__new__" = true
  kp_NothingToUndo : PySem.W.keepIn K (.ref (cls 10)) = true
  sb_NothingToUndo : PySem.W.subIn K (.ref (cls 10)) (.type "BaseException") = some true
  ty_NothingToUndo : PySem.W.typeIn K (.ref (cls 10)) = some (.type "type")
end PV

set_option maxHeartbeats 4000000
namespace PV
open PySem PySem.Spec L2 PyProof.Rows
section
variable {p : Program} {w : World} {K : PySem.W.Frag} {mg : Str → Option Value} {base : Heap} {cls fna : Nat → Addr}
theorem sc_law_alike : FnScope ["found", "due", "k"] ["found", "due"] (defScope (top 15)) := ⟨rfl, rfl, rfl, by decide +kernel, rfl, by decide +kernel, by decide +kernel⟩
theorem ok_law_alike_at {KB : Nat} {FD : FN} (C_law_alike : Ca p w K mg base (cx K cls fna) KB "_law_alike" 2 FD) (hKB : 0 ≤ KB) (T : Txt K mg cls fna) (D : At K mg "_law_alike" (top 15) ["found", "due"]) : Ca p w K mg base (cx K cls fna) (KB + 1) "_law_alike" 2 (fnF 1 (B_law_alike FD)) := by
  have S := @sc_law_alike
  refine ca_of (N := ["found", "due", "k"]) (ps := ["found", "due"]) (body := B_law_alike FD) D S rfl rfl fun f cdv A outer s H E gd hr => ?_
  unfold B_law_alike
  exact (s_cons (s_if (p_tst (p_blt cl_isi v_isi rfl T.isinstance bb_isinstance (pr_cons (p_var 1) (pr_cons (p_tup (pr_cons (p_ty rfl T.tuple bb_tuple) (pr_cons (p_ty rfl T.list bb_list) pr_nil))) pr_nil)))) (s_cons (s_if (t_w (w_or (p_not (p_tst (p_blt cl_isi v_isi rfl T.isinstance bb_isinstance (pr_cons (p_var 0) (pr_cons (p_tup (pr_cons (p_ty rfl T.tuple bb_tuple) (pr_cons (p_ty rfl T.list bb_list) pr_nil))) pr_nil))))) (w_or1 (p_tcmp (op_neD (hu64 hr)) v_ne (p_blt cl_isi v_isi rfl T.isinstance bb_isinstance (pr_cons (p_var 0) (pr_cons (p_ty rfl T.list bb_list) pr_nil))) (p_blt cl_isi v_isi rfl T.isinstance bb_isinstance (pr_cons (p_var 1) (pr_cons (p_ty rfl T.list bb_list) pr_nil))) rfl)))) (s_one (s_ret p_bl)) s_nil)
  (s_cons (s_if (p_tcmp (op_neD (hu64 hr)) v_ne (p_blt cl_len v_len rfl T.len bb_len (pr_cons (p_var 0) pr_nil)) (p_blt cl_len v_len rfl T.len bb_len (pr_cons (p_var 1) pr_nil)) rfl) (s_one (s_ret p_bl)) s_nil)
  (s_one (s_ret (p_cmp (op_eqD (hu64 hr)) v_eq (p_lc (own := [("k", 2)]) (by decide) rfl S.nd (i_range1 rfl T.range (pr_cons (p_blt cl_len v_len rfl T.len bb_len (pr_cons (p_var 1) pr_nil)) pr_nil)) (blkOk_by (N := ["found", "due", "k"]) (sc := defScope (top 15)) (own := [("k", 2)]) (by decide +kernel)) (fun _ _ _ _ _ => (g_name S.nd rfl (.inl rfl) (i := 2))) (fun _ _ _ _ _ => (t_one (p_not (p_tst (p_ca C_law_alike (by omega) gd hr L2.takes0 rfl (pr_cons (p_ix ix_seq v_ix (p_var 0) (p_var 2) (fun _ _ => rfl)) (pr_cons (p_ix ix_seq v_ix (p_var 1) (p_var 2) (fun _ _ => rfl)) pr_nil)) (len_cons (len_cons len_nil))))))) (fun _ _ _ _ _ => (p_take (p_var 2)))) (p_lst pr_nil) rfl))))) s_nil)
  (s_cons (s_if (t_w (w_or (p_tcmp op_isN v_isN (p_var 1) p_non rfl) (w_or1 (p_tst (p_blt cl_isi v_isi rfl T.isinstance bb_isinstance (pr_cons (p_var 1) (pr_cons (p_ty rfl T.str_ bb_str) pr_nil))))))) (s_one (s_ret (v_and (p_cmp (op_eqD (hu64 hr)) v_eq (p_var 0) (p_var 1) rfl) (v_one (p_cmp (op_eqD (hu64 hr)) v_eq (p_blt cl_isi v_isi rfl T.isinstance bb_isinstance (pr_cons (p_var 0) (pr_cons (p_ty rfl T.str_ bb_str) pr_nil))) (p_blt cl_isi v_isi rfl T.isinstance bb_isinstance (pr_cons (p_var 1) (pr_cons (p_ty rfl T.str_ bb_str) pr_nil))) rfl))))) s_nil)
  (s_one (s_ret (v_and (p_blt cl_isi v_isi rfl T.isinstance bb_isinstance (pr_cons (p_var 0) (pr_cons (p_ty rfl T.int_ bb_int) pr_nil))) (v_and (p_cmp (op_eqD (hu64 hr)) v_eq (p_blt cl_isi v_isi rfl T.isinstance bb_isinstance (pr_cons (p_var 0) (pr_cons (p_ty rfl T.bool_ bb_bool) pr_nil))) (p_blt cl_isi v_isi rfl T.isinstance bb_isinstance (pr_cons (p_var 1) (pr_cons (p_ty rfl T.bool_ bb_bool) pr_nil))) rfl) (v_one (p_cmp (op_eqD (hu64 hr)) v_eq (p_var 0) (p_var 1) rfl))))))))
theorem ok_law_alike (T : Txt K mg cls fna) (D : At K mg "_law_alike" (top 15) ["found", "due"]) : ∀ d, Ca p w K mg base (cx K cls fna) (0 + d) "_law_alike" 2 (F_law_alike d)
  | 0 => ca_bad D
  | d + 1 => ok_law_alike_at (ok_law_alike T D d) (by omega) T D

end
end PV

set_option maxHeartbeats 4000000
namespace PV
open PySem PySem.Spec L2 PyProof.Rows
section
variable {p : Program} {w : World} {K : PySem.W.Frag} {mg : Str → Option Value} {base : Heap} {cls fna : Nat → Addr}
theorem sc_law_taken : FnScope ["row", "many", "cell", "found"] ["row", "many"] (defScope (top 13)) := ⟨rfl, rfl, rfl, by decide +kernel, rfl, by decide +kernel, by decide +kernel⟩
theorem ok_law_taken (T : Txt K mg cls fna) (D : At K mg "_law_taken" (top 13) ["row", "many"]) : Ca p w K mg base (cx K cls fna) 1 "_law_taken" 2 (F_law_taken) := by
  have S := @sc_law_taken
  unfold F_law_taken
  refine ca_of (N := ["row", "many", "cell", "found"]) (ps := ["row", "many"]) (body := B_law_taken) D S rfl rfl fun f cdv A outer s H E gd hr => ?_
  unfold B_law_taken
  exact (s_cons (s_if (p_tcmp op_gt v_cmp (p_ix ix_seq v_ix (p_var 0) p_int (fun _ _ => rfl)) p_int rfl) (s_cons (s_set S.nd (i := 3) rfl (.inl rfl) (p_bin op_mod v_mod (p_bty call_int1 v_int rfl T.int_ bb_int (pr_cons (p_ix ix_seq v_ix (p_var 0) p_int (fun _ _ => rfl)) pr_nil)) (p_var 1)))
  (s_cons (s_st (p_var 0) p_int (p_take (p_bin op_fdivW v_fdiv (p_ix ix_seq v_ix (p_var 0) p_int (fun _ _ => rfl)) (p_var 1))))
  (s_one (s_ret (p_var 3))))) s_nil)
  (s_cons (s_st (p_var 0) p_int (p_take (p_bin op_add4 v_add (p_ix ix_seq v_ix (p_var 0) p_int (fun _ _ => rfl)) p_int)))
  (s_cons (s_if (p_tcmp op_gt v_cmp (p_ix ix_seq v_ix (p_var 0) p_int (fun _ _ => rfl)) (p_blt cl_len v_len rfl T.len bb_len (pr_cons (p_ix ix_seq v_ix (p_var 0) p_int (fun _ _ => rfl)) pr_nil)) rfl) (s_cons (s_st (p_var 0) p_int (p_take (p_bin op_mod v_mod (p_bty call_int1 v_int rfl T.int_ bb_int (pr_cons (p_bin op_add4 v_add (p_bin op_mul3 v_mul (p_ix ix_seq v_ix (p_var 0) p_int (fun _ _ => rfl)) p_int) p_int) pr_nil)) p_int)))
  (s_one (s_ret (p_bin op_mod v_mod (p_bty call_int1 v_int rfl T.int_ bb_int (pr_cons (p_bin op_fdivW v_fdiv (p_ix ix_seq v_ix (p_var 0) p_int (fun _ _ => rfl)) p_int) pr_nil)) (p_var 1))))) s_nil)
  (s_cons (s_set S.nd (i := 2) rfl (.inl rfl) (p_ix ix_seq v_ix (p_ix ix_seq v_ix (p_var 0) p_int (fun _ _ => rfl)) (p_bin op_sub v_sub (p_ix ix_seq v_ix (p_var 0) p_int (fun _ _ => rfl)) p_int) (fun _ _ => rfl)))
  (s_cons (s_st (p_var 0) p_int (p_take (p_bin op_mod v_mod (p_bty call_int1 v_int rfl T.int_ bb_int (pr_cons (p_bin op_add4 v_add (p_bin op_add4 v_add (p_bin op_mul3 v_mul (p_ix ix_seq v_ix (p_var 0) p_int (fun _ _ => rfl)) p_int) (p_var 2)) p_int) pr_nil)) p_int)))
  (s_cons (s_if (p_tcmp op_ge v_cmp (p_var 2) (p_bin op_pow v_pow p_int p_int) rfl) (s_one (s_st (p_var 0) p_int (p_take (p_bin op_fdivW v_fdiv (p_var 2) (p_var 1))))) s_nil)
  (s_one (s_ret (p_bin op_mod v_mod (p_bty call_int1 v_int rfl T.int_ bb_int (pr_cons (p_var 2) pr_nil)) (p_var 1))))))))))

end
end PV

set_option maxHeartbeats 4000000
namespace PV
open PySem PySem.Spec L2 PyProof.Rows
section
variable {p : Program} {w : World} {K : PySem.W.Frag} {mg : Str → Option Value} {base : Heap} {cls fna : Nat → Addr}
theorem sc_law_pick : FnScope ["row", "kinds"] ["row", "kinds"] (defScope (top 14)) := ⟨rfl, rfl, rfl, by decide +kernel, rfl, by decide +kernel, by decide +kernel⟩
theorem ok_law_pick (T : Txt K mg cls fna) (D : At K mg "_law_pick" (top 14) ["row", "kinds"]) (C_law_taken : Ca p w K mg base (cx K cls fna) 1 "_law_taken" 2 (F_law_taken)) : Ca p w K mg base (cx K cls fna) 2 "_law_pick" 2 (F_law_pick) := by
  have S := @sc_law_pick
  unfold F_law_pick
  refine ca_of (N := ["row", "kinds"]) (ps := ["row", "kinds"]) (body := B_law_pick) D S rfl rfl fun f cdv A outer s H E gd hr => ?_
  unfold B_law_pick
  exact (s_one (s_ret (p_ix ix_seq v_ix (p_var 1) (p_ca C_law_taken (by omega) gd hr (takes_of rfl rfl rfl rfl) rfl (pr_cons (p_var 0) (pr_cons (p_blt cl_len v_len rfl T.len bb_len (pr_cons (p_var 1) pr_nil)) pr_nil)) (len_cons (len_cons len_nil))) (fun _ _ => rfl))))

end
end PV

set_option maxHeartbeats 4000000
namespace PV
open PySem PySem.Spec L2 PyProof.Rows
section
variable {p : Program} {w : World} {K : PySem.W.Frag} {mg : Str → Option Value} {base : Heap} {cls fna : Nat → Addr}
theorem sc_law_raised : FnScope ["number", "value", "named", "e", "kinds", "field"] ["number", "value", "named"] (defScope (top 16)) := ⟨rfl, rfl, rfl, by decide +kernel, rfl, by decide +kernel, by decide +kernel⟩
theorem ok_law_raised (T : Txt K mg cls fna) (D : At K mg "_law_raised" (top 16) ["number", "value", "named"]) (EBadNumber : ExK p w K mg base (cx K cls fna) 1 1 1 "BadNumber" ["self", "value"]) (EBadName : ExK p w K mg base (cx K cls fna) 1 2 1 "BadName" ["self", "value"]) (EBadItem : ExK p w K mg base (cx K cls fna) 1 3 1 "BadItem" ["self", "index"]) (EBadEvent : ExK p w K mg base (cx K cls fna) 1 4 1 "BadEvent" ["self", "value"]) (EBadNote : ExK p w K mg base (cx K cls fna) 1 5 1 "BadNote" ["self", "line"]) (ETooMany : ExK p w K mg base (cx K cls fna) 1 6 1 "TooMany" ["self", "limit"]) (EUnknown : ExK p w K mg base (cx K cls fna) 1 7 1 "Unknown" ["self", "value"]) (ETaken : ExK p w K mg base (cx K cls fna) 1 8 1 "Taken" ["self", "value"]) (ERefused : ExK p w K mg base (cx K cls fna) 1 9 2 "Refused" ["self", "reason", "names"]) : Ca p w K mg base (cx K cls fna) 3 "_law_raised" 3 (F_law_raised) := by
  have S := @sc_law_raised
  unfold F_law_raised
  refine ca_of (N := ["number", "value", "named", "e", "kinds", "field"]) (ps := ["number", "value", "named"]) (body := B_law_raised) D S rfl rfl fun f cdv A outer s H E gd hr => ?_
  unfold B_law_raised
  exact (s_one (s_tryAs rfl rfl S.nd (i := 3) (C := 0) (m := 11) rfl rfl ⟨rfl, by decide, .inl T.mg_HutsError⟩ (takes_of rfl rfl rfl rfl) T.exm_HutsError (fun W pn xe tk0 pw0 => (s_cons (s_if (p_tcmp (op_eqD (hu64 hr)) v_eq (p_var 0) p_int rfl) (s_one (s_raise rfl tk0 EBadNumber (hr.mono (by omega)) rfl (pr_cons (p_val (p_take (p_var 1))) pr_nil))) s_nil)
  (s_cons (s_if (p_tcmp (op_eqD (hu64 hr)) v_eq (p_var 0) p_int rfl) (s_one (s_raise rfl tk0 EBadName (hr.mono (by omega)) rfl (pr_cons (p_val (p_take (p_var 1))) pr_nil))) s_nil)
  (s_cons (s_if (p_tcmp (op_eqD (hu64 hr)) v_eq (p_var 0) p_int rfl) (s_one (s_raise rfl tk0 EBadItem (hr.mono (by omega)) rfl (pr_cons (p_val (p_take (p_var 1))) pr_nil))) s_nil)
  (s_cons (s_if (p_tcmp (op_eqD (hu64 hr)) v_eq (p_var 0) p_int rfl) (s_one (s_raise rfl tk0 EBadEvent (hr.mono (by omega)) rfl (pr_cons (p_val (p_take (p_var 1))) pr_nil))) s_nil)
  (s_cons (s_if (p_tcmp (op_eqD (hu64 hr)) v_eq (p_var 0) p_int rfl) (s_one (s_raise rfl tk0 EBadNote (hr.mono (by omega)) rfl (pr_cons (p_val (p_take (p_var 1))) pr_nil))) s_nil)
  (s_cons (s_if (p_tcmp (op_eqD (hu64 hr)) v_eq (p_var 0) p_int rfl) (s_one (s_raise rfl tk0 ETooMany (hr.mono (by omega)) rfl (pr_cons (p_val (p_take (p_var 1))) pr_nil))) s_nil)
  (s_cons (s_if (p_tcmp (op_eqD (hu64 hr)) v_eq (p_var 0) p_int rfl) (s_one (s_raise rfl tk0 EUnknown (hr.mono (by omega)) rfl (pr_cons (p_val (p_take (p_var 1))) pr_nil))) s_nil)
  (s_cons (s_if (p_tcmp (op_eqD (hu64 hr)) v_eq (p_var 0) p_int rfl) (s_one (s_raise rfl tk0 ETaken (hr.mono (by omega)) rfl (pr_cons (p_val (p_take (p_var 1))) pr_nil))) s_nil)
  (s_cons (s_if (p_tcmp (op_eqD (hu64 hr)) v_eq (p_var 0) p_int rfl) (s_one (s_raise rfl tk0 ERefused (hr.mono (by omega)) rfl (pr_cons (p_val (p_take (p_var 1))) (pr_cons (p_val (p_take (p_var 2))) pr_nil)))) s_nil)
  (s_one (s_raise0 rfl tk0 PySem.F.excBase_ValueError T.x0_NothingToUndo T.mg0_NothingToUndo T.kp_NothingToUndo (raises_own T.sb_NothingToUndo T.ty_NothingToUndo) rfl rfl)))))))))))) (fun C' ps a oe d pn hm hsb hz hv => x_keep (k_cons (k_set (by decide) S.nd (i := _) (j := 4) rfl (.inl rfl) (p_lst (pr_cons (p_isX (T.exa C' hm) (V2 := .ref (cls 1)) (cv := .ref (cls 1)) (fun u h => h) (T.ki_BadNumber C' hm) hz hv (i := 3) rfl (.inl rfl) (pe_glob rfl T.mg0_BadNumber rfl) rfl T.isinstance bb_isinstance) (pr_cons (p_isX (T.exa C' hm) (V2 := .ref (cls 2)) (cv := .ref (cls 2)) (fun u h => h) (T.ki_BadName C' hm) hz hv (i := 3) rfl (.inl rfl) (pe_glob rfl T.mg0_BadName rfl) rfl T.isinstance bb_isinstance) (pr_cons (p_isX (T.exa C' hm) (V2 := .ref (cls 3)) (cv := .ref (cls 3)) (fun u h => h) (T.ki_BadItem C' hm) hz hv (i := 3) rfl (.inl rfl) (pe_glob rfl T.mg0_BadItem rfl) rfl T.isinstance bb_isinstance) (pr_cons (p_isX (T.exa C' hm) (V2 := .ref (cls 4)) (cv := .ref (cls 4)) (fun u h => h) (T.ki_BadEvent C' hm) hz hv (i := 3) rfl (.inl rfl) (pe_glob rfl T.mg0_BadEvent rfl) rfl T.isinstance bb_isinstance) (pr_cons (p_isX (T.exa C' hm) (V2 := .ref (cls 5)) (cv := .ref (cls 5)) (fun u h => h) (T.ki_BadNote C' hm) hz hv (i := 3) rfl (.inl rfl) (pe_glob rfl T.mg0_BadNote rfl) rfl T.isinstance bb_isinstance) pr_nil))))))) (k_cons (k_set (by decide) S.nd (i := _) (j := 4) rfl (.inl rfl) (p_bin op_add4 v_add (p_var 4) (p_lst (pr_cons (p_isX (T.exa C' hm) (V2 := .ref (cls 6)) (cv := .ref (cls 6)) (fun u h => h) (T.ki_TooMany C' hm) hz hv (i := 3) rfl (.inl rfl) (pe_glob rfl T.mg0_TooMany rfl) rfl T.isinstance bb_isinstance) (pr_cons (p_isX (T.exa C' hm) (V2 := .ref (cls 7)) (cv := .ref (cls 7)) (fun u h => h) (T.ki_Unknown C' hm) hz hv (i := 3) rfl (.inl rfl) (pe_glob rfl T.mg0_Unknown rfl) rfl T.isinstance bb_isinstance) (pr_cons (p_isX (T.exa C' hm) (V2 := .ref (cls 8)) (cv := .ref (cls 8)) (fun u h => h) (T.ki_Taken C' hm) hz hv (i := 3) rfl (.inl rfl) (pe_glob rfl T.mg0_Taken rfl) rfl T.isinstance bb_isinstance) (pr_cons (p_isX (T.exa C' hm) (V2 := .ref (cls 9)) (cv := .ref (cls 9)) (fun u h => h) (T.ki_Refused C' hm) hz hv (i := 3) rfl (.inl rfl) (pe_glob rfl T.mg0_Refused rfl) rfl T.isinstance bb_isinstance) (pr_cons (p_isX (T.exa C' hm) (V2 := .ref (cls 10)) (cv := .ref (cls 10)) (fun u h => h) (T.ki_NothingToUndo C' hm) hz hv (i := 3) rfl (.inl rfl) (pe_glob rfl T.mg0_NothingToUndo rfl) rfl T.isinstance bb_isinstance) pr_nil)))))))) (k_cons (k_if (t_w (w_or (p_not (p_tst (p_isX (T.exa C' hm) (V2 := .ty "ValueError") (cv := .type "ValueError") (fun u h => h) (T.kb_ValueError C' hm) hz hv (i := 3) rfl (.inl rfl) (pe_bltn rfl T.ValueError (by decide +kernel) rfl) rfl T.isinstance bb_isinstance))) (w_or (p_tst (p_isX (T.exa C' hm) (V2 := .ty "LookupError") (cv := .type "LookupError") (fun u h => h) (T.kb_LookupError C' hm) hz hv (i := 3) rfl (.inl rfl) (pe_bltn rfl T.LookupError (by decide +kernel) rfl) rfl T.isinstance bb_isinstance)) (w_or1 (p_tst (p_isX (T.exa C' hm) (V2 := .ty "RuntimeError") (cv := .type "RuntimeError") (fun u h => h) (T.kb_RuntimeError C' hm) hz hv (i := 3) rfl (.inl rfl) (pe_bltn rfl T.RuntimeError (by decide +kernel) rfl) rfl T.isinstance bb_isinstance)))))) (k_one (k_ret p_non)) k_nil) (k_cons (k_set (by decide) S.nd (i := _) (j := 5) rfl (.inl rfl) p_non) (k_cons (k_if (p_tcmp (op_inX (by have z := hu65 hr; exact z)) v_inX (p_var 0) (p_lst (pr_cons p_int (pr_cons p_int (pr_cons p_int (pr_cons p_int (pr_cons p_int pr_nil)))))) rfl) (k_one (k_set (by decide) S.nd (i := _) (j := 5) rfl (.inl rfl) (p_xfL (T.xfa C' hm) (T.noa_value C' hm) hz hv (i := 3) rfl (.inl rfl)))) k_nil) (k_cons (k_if (p_tcmp (op_eqD (by have z := hu64 hr; exact z)) v_eq (p_var 0) p_int rfl) (k_one (k_set (by decide) S.nd (i := _) (j := 5) rfl (.inl rfl) (p_xfL (T.xfa C' hm) (T.noa_index C' hm) hz hv (i := 3) rfl (.inl rfl)))) k_nil) (k_cons (k_if (p_tcmp (op_eqD (by have z := hu64 hr; exact z)) v_eq (p_var 0) p_int rfl) (k_one (k_set (by decide) S.nd (i := _) (j := 5) rfl (.inl rfl) (p_xfL (T.xfa C' hm) (T.noa_line C' hm) hz hv (i := 3) rfl (.inl rfl)))) k_nil) (k_cons (k_if (p_tcmp (op_eqD (by have z := hu64 hr; exact z)) v_eq (p_var 0) p_int rfl) (k_one (k_set (by decide) S.nd (i := _) (j := 5) rfl (.inl rfl) (p_xfL (T.xfa C' hm) (T.noa_limit C' hm) hz hv (i := 3) rfl (.inl rfl)))) k_nil) (k_cons (k_if (p_tcmp (op_eqD (by have z := hu64 hr; exact z)) v_eq (p_var 0) p_int rfl) (k_one (k_set (by decide) S.nd (i := _) (j := 5) rfl (.inl rfl) (p_tup (pr_cons (p_xfL (T.xfa C' hm) (T.noa_reason C' hm) hz hv (i := 3) rfl (.inl rfl)) (pr_cons (p_xfL (T.xfa C' hm) (T.noa_names C' hm) hz hv (i := 3) rfl (.inl rfl)) pr_nil))))) k_nil) (k_one (k_ret (p_tup (pr_cons (p_val (p_take (p_var 4))) (pr_cons (p_val (p_take (p_var 5))) pr_nil)))))))))))))))))

end
end PV

set_option maxHeartbeats 4000000
namespace PV
open PySem PySem.Spec L2 PyProof.Rows
section
variable {p : Program} {w : World} {K : PySem.W.Frag} {mg : Str → Option Value} {base : Heap} {cls fna : Nat → Addr}
theorem sclaw : FnScope ["script", "row", "number", "made", "value", "named", "told", "due", "k"] ["script"] (defScope (top 17)) := ⟨rfl, rfl, rfl, by decide +kernel, rfl, by decide +kernel, by decide +kernel⟩
theorem oklaw (T : Txt K mg cls fna) {f : Addr} {fd : FuncData} (D : Fun K "law" "law" (top 17) f fd) (C_law_taken : Ca p w K mg base (cx K cls fna) 1 "_law_taken" 2 (F_law_taken)) (C_law_pick : Ca p w K mg base (cx K cls fna) 2 "_law_pick" 2 (F_law_pick)) (C_law_raised : Ca p w K mg base (cx K cls fna) 3 "_law_raised" 3 (F_law_raised)) (C_law_alike : Ca p w K mg base (cx K cls fna) 5 "_law_alike" 2 (F_law_alike 5)) (KXBadEvent_value : ExKK p w K mg base (cx K cls fna) 1 4 "BadEvent" ["self", "value"] ["value"] false) (KXBadItem_index : ExKK p w K mg base (cx K cls fna) 1 3 "BadItem" ["self", "index"] ["index"] false) (KXBadName_value : ExKK p w K mg base (cx K cls fna) 1 2 "BadName" ["self", "value"] ["value"] false) (KXBadNote_line : ExKK p w K mg base (cx K cls fna) 1 5 "BadNote" ["self", "line"] ["line"] false) (KXBadNumber_value : ExKK p w K mg base (cx K cls fna) 1 1 "BadNumber" ["self", "value"] ["value"] false) (KXRefused_names_reason : ExKK p w K mg base (cx K cls fna) 1 9 "Refused" ["self", "reason", "names"] ["names", "reason"] true) (KXRefused_reason_names : ExKK p w K mg base (cx K cls fna) 1 9 "Refused" ["self", "reason", "names"] ["reason", "names"] false) (KXTaken_value : ExKK p w K mg base (cx K cls fna) 1 8 "Taken" ["self", "value"] ["value"] false) (KXTooMany_limit : ExKK p w K mg base (cx K cls fna) 1 6 "TooMany" ["self", "limit"] ["limit"] false) (KXUnknown_value : ExKK p w K mg base (cx K cls fna) 1 7 "Unknown" ["self", "value"] ["value"] false) : FnG p w K mg base 6 f fd ["script"] (spF (cx K cls fna) 1 Flaw) := by
  have S := @sclaw
  unfold Flaw
  refine fnG_by (N := ["script", "row", "number", "made", "value", "named", "told", "due", "k"]) (ps := ["script"]) (body := Blaw) D S rfl rfl fun cdv A outer s H E gd hr => ?_
  unfold Blaw Slaw1 Slaw2 Slaw3 Slaw4 Slaw5
  exact (s_cons (s_set S.nd (i := 1) rfl (.inl rfl) (p_lst (pr_cons (p_val (p_take (p_var 0))) (pr_cons p_int (pr_cons p_int (pr_cons p_int pr_nil))))))
  (s_cons (s_for (passes_of rfl) rfl (i_range1 rfl T.range (pr_cons p_int pr_nil)) (g_name S.nd rfl (.inr rfl) (i := 2)) (s_cons (s_set S.nd (i := 4) rfl (.inl rfl) (p_ca C_law_pick (by omega) gd hr (takes_of rfl rfl rfl rfl) rfl (pr_cons (p_var 1) (pr_cons (p_val (p_take (p_lst (pr_cons p_non (pr_cons p_int (pr_cons p_str (pr_cons (p_tup (pr_cons p_int (pr_cons p_int pr_nil))) (pr_cons p_bl (pr_cons (p_val (p_take (p_ca C_law_taken (by omega) gd hr (takes_of rfl rfl rfl rfl) rfl (pr_cons (p_var 1) (pr_cons (p_val (p_take (p_bin op_pow v_pow p_int p_int))) pr_nil)) (len_cons (len_cons len_nil))))) pr_nil))))))))) pr_nil)) (len_cons (len_cons len_nil))))
  (s_cons (s_set S.nd (i := 5) rfl (.inl rfl) (p_ca C_law_pick (by omega) gd hr (takes_of rfl rfl rfl rfl) rfl (pr_cons (p_var 1) (pr_cons (p_val (p_take (p_lst (pr_cons (p_tup pr_nil) (pr_cons (p_tup (pr_cons p_str pr_nil)) pr_nil))))) pr_nil)) (len_cons (len_cons len_nil))))
  (s_cons (s_set S.nd (i := 6) rfl (.inl rfl) (p_ca C_law_raised (by omega) gd hr (takes_of rfl rfl rfl rfl) rfl (pr_cons (p_val (p_take (p_var 2))) (pr_cons (p_val (p_take (p_var 4))) (pr_cons (p_val (p_take (p_var 5))) pr_nil))) (len_cons (len_cons (len_cons len_nil)))))
  (s_cons (s_if (t_w (w_or (p_tcmp op_isN v_isN (p_var 6) p_non rfl) (w_or1 (p_tcmp (op_neD (hu64 hr)) v_ne (p_ix ix_seq v_ix (p_var 6) p_int (fun _ _ => rfl)) (p_lc (own := [("k", 8)]) (by decide) rfl S.nd (i_range1 rfl T.range (pr_cons p_int pr_nil)) (blkOk_by (N := ["script", "row", "number", "made", "value", "named", "told", "due", "k"]) (sc := defScope (top 17)) (own := [("k", 8)]) (by decide +kernel)) (fun _ _ _ _ _ => (g_name S.nd rfl (.inl rfl) (i := 8))) (fun _ _ _ _ _ => t_yes) (fun _ _ _ _ _ => (p_take (p_cmp (op_eqD (hu64 hr)) v_eq (p_var 8) (p_var 2) rfl)))) rfl)))) (s_one (s_ret p_bl)) s_nil)
  (s_cons (s_set S.nd (i := 7) rfl (.inl rfl) (p_val (p_take (p_var 4))))
  (s_cons (s_if (p_tcmp (op_eqD (hu64 hr)) v_eq (p_var 2) p_int rfl) (s_one (s_set S.nd (i := 7) rfl (.inl rfl) (p_tup (pr_cons (p_val (p_take (p_var 4))) (pr_cons (p_val (p_take (p_var 5))) pr_nil))))) s_nil)
  (s_one (s_if (t_w (w_and (p_tcmp op_lt v_cmp (p_var 2) p_int rfl) (w_and1 (t_w (w_or (p_tcmp (op_neD (hu64 hr)) v_ne (p_ix ix_seq v_ix (p_var 6) p_int (fun _ _ => rfl)) (p_var 7) rfl) (w_or1 (p_tcmp (op_neD (hu64 hr)) v_ne (p_blt cl_isi v_isi rfl T.isinstance bb_isinstance (pr_cons (p_ix ix_seq v_ix (p_var 6) p_int (fun _ _ => rfl)) (pr_cons (p_ty rfl T.bool_ bb_bool) pr_nil))) (p_blt cl_isi v_isi rfl T.isinstance bb_isinstance (pr_cons (p_var 7) (pr_cons (p_ty rfl T.bool_ bb_bool) pr_nil))) rfl))))))) (s_one (s_ret p_bl)) s_nil)))))))))
  (s_cons (s_set S.nd (i := 3) rfl (.inl rfl) (p_lst (pr_cons (p_mkxE (k := 1) (hr.mono (by omega)) KXBadNumber_value (by rfl) (T.xfa 1 (by decide)) (T.noa_value 1 (by decide)) (kr_cons (p_val (p_take p_int)) kr_nil) rfl rfl) (pr_cons (p_mkxE (k := 1) (hr.mono (by omega)) KXBadName_value (by rfl) (T.xfa 2 (by decide)) (T.noa_value 2 (by decide)) (kr_cons (p_val (p_take p_str)) kr_nil) rfl rfl) (pr_cons (p_mkxE (k := 1) (hr.mono (by omega)) KXBadItem_index (by rfl) (T.xfa 3 (by decide)) (T.noa_index 3 (by decide)) (kr_cons (p_val (p_take p_int)) kr_nil) rfl rfl) (pr_cons (p_mkxE (k := 1) (hr.mono (by omega)) KXBadEvent_value (by rfl) (T.xfa 4 (by decide)) (T.noa_value 4 (by decide)) (kr_cons (p_val (p_take p_int)) kr_nil) rfl rfl) (pr_cons (p_mkxE (k := 1) (hr.mono (by omega)) KXBadNote_line (by rfl) (T.xfa 5 (by decide)) (T.noa_line 5 (by decide)) (kr_cons (p_val (p_take p_int)) kr_nil) rfl rfl) pr_nil)))))))
  (s_cons (s_set S.nd (i := 3) rfl (.inl rfl) (p_bin op_add4 v_add (p_var 3) (p_lst (pr_cons (p_mkxE (k := 1) (hr.mono (by omega)) KXTooMany_limit (by rfl) (T.xfa 6 (by decide)) (T.noa_limit 6 (by decide)) (kr_cons (p_val (p_take p_int)) kr_nil) rfl rfl) (pr_cons (p_mkxE (k := 1) (hr.mono (by omega)) KXUnknown_value (by rfl) (T.xfa 7 (by decide)) (T.noa_value 7 (by decide)) (kr_cons (p_val (p_take p_int)) kr_nil) rfl rfl) (pr_cons (p_mkxE (k := 1) (hr.mono (by omega)) KXTaken_value (by rfl) (T.xfa 8 (by decide)) (T.noa_value 8 (by decide)) (kr_cons (p_val (p_take p_int)) kr_nil) rfl rfl) (pr_cons (p_mkxE (k := 1) (hr.mono (by omega)) KXRefused_reason_names (by rfl) (T.xfa 9 (by decide)) (T.noa_names 9 (by decide)) (kr_cons (p_val (p_take p_str)) (kr_cons (p_val (p_take p_int)) kr_nil)) rfl rfl) (pr_cons (p_mkxE (k := 1) (hr.mono (by omega)) KXRefused_names_reason (by rfl) (T.xfa 9 (by decide)) (T.noa_reason 9 (by decide)) (kr_cons (p_val (p_take p_int)) (kr_cons (p_val (p_take p_str)) kr_nil)) rfl rfl) pr_nil))))))))
  (s_one (s_ret (p_ca C_law_alike (by omega) gd hr (takes_of rfl rfl rfl rfl) rfl (pr_cons (p_val (p_take (p_var 3))) (pr_cons (p_val (p_take (p_lst (pr_cons p_int (pr_cons p_str (pr_cons p_int (pr_cons p_int (pr_cons p_int (pr_cons p_int (pr_cons p_int (pr_cons p_int (pr_cons p_int (pr_cons p_str pr_nil))))))))))))) pr_nil)) (len_cons (len_cons len_nil)))))))))
end
end PV

set_option maxHeartbeats 4000000
namespace PV
open PySem PySem.Spec L2 PyProof.Rows
theorem all_mk {w : World} {K : PySem.W.Frag} {h : Heap} {mg : Str → Option Value} {fa : Addr} (hp : ∀ ns : List Int, ns.length ≤ 63 → ∃ πs, Flaw [.val (.scr ns)] = .ok (.val (.bl true)) πs) (X : K.In h) (G : h.Ns mainGlobals mg) (hfa : mg "law" = some (.ref fa))
    {C_HutsError : Addr}
    {C_BadNumber : Addr}
    {C_BadName : Addr}
    {C_BadItem : Addr}
    {C_BadEvent : Addr}
    {C_BadNote : Addr}
    {C_TooMany : Addr}
    {C_Unknown : Addr}
    {C_Taken : Addr}
    {C_Refused : Addr}
    {C_NothingToUndo : Addr}
    {nm_BadNumber q_BadNumber : Str} {N_BadNumber : Addr} {bs_BadNumber bm_BadNumber sb_BadNumber : List Value} {sn_BadNumber : List Str} {ab_BadNumber : Bool} {col_BadNumber : Option Bool} {dd_BadNumber : Option Addr} {k0_BadNumber k1_BadNumber k2_BadNumber k3_BadNumber k5_BadNumber : Option Value}
    {fI_BadNumber cc_BadNumber cda_BadNumber : Addr} {oc_BadNumber kV_BadNumber dc_BadNumber pm_BadNumber ct_BadNumber : Value} {od_BadNumber an_BadNumber : Option Addr} {sl_BadNumber : Array (Option Value)}
    {cl_BadNumber ccl_BadNumber : Value} {cld_BadNumber cdd_BadNumber : Option Addr} {csl_BadNumber ccs_BadNumber : Array (Option Value)} {cvs_BadNumber : Array Value} {file_BadNumber : Str} {tf_BadNumber : Tok} {cd_BadNumber : ClassData}
    {lc0_BadNumber : Value} {ld0_BadNumber : Option Addr} {lcd_BadNumber : ClassData} {ls0_BadNumber : Array (Option Value)}
    {nm_BadName q_BadName : Str} {N_BadName : Addr} {bs_BadName bm_BadName sb_BadName : List Value} {sn_BadName : List Str} {ab_BadName : Bool} {col_BadName : Option Bool} {dd_BadName : Option Addr} {k0_BadName k1_BadName k2_BadName k3_BadName k5_BadName : Option Value}
    {fI_BadName cc_BadName cda_BadName : Addr} {oc_BadName kV_BadName dc_BadName pm_BadName ct_BadName : Value} {od_BadName an_BadName : Option Addr} {sl_BadName : Array (Option Value)}
    {cl_BadName ccl_BadName : Value} {cld_BadName cdd_BadName : Option Addr} {csl_BadName ccs_BadName : Array (Option Value)} {cvs_BadName : Array Value} {file_BadName : Str} {tf_BadName : Tok} {cd_BadName : ClassData}
    {lc0_BadName : Value} {ld0_BadName : Option Addr} {lcd_BadName : ClassData} {ls0_BadName : Array (Option Value)}
    {nm_BadItem q_BadItem : Str} {N_BadItem : Addr} {bs_BadItem bm_BadItem sb_BadItem : List Value} {sn_BadItem : List Str} {ab_BadItem : Bool} {col_BadItem : Option Bool} {dd_BadItem : Option Addr} {k0_BadItem k1_BadItem k2_BadItem k3_BadItem k5_BadItem : Option Value}
    {fI_BadItem cc_BadItem cda_BadItem : Addr} {oc_BadItem kV_BadItem dc_BadItem pm_BadItem ct_BadItem : Value} {od_BadItem an_BadItem : Option Addr} {sl_BadItem : Array (Option Value)}
    {cl_BadItem ccl_BadItem : Value} {cld_BadItem cdd_BadItem : Option Addr} {csl_BadItem ccs_BadItem : Array (Option Value)} {cvs_BadItem : Array Value} {file_BadItem : Str} {tf_BadItem : Tok} {cd_BadItem : ClassData}
    {lc0_BadItem : Value} {ld0_BadItem : Option Addr} {lcd_BadItem : ClassData} {ls0_BadItem : Array (Option Value)}
    {nm_BadEvent q_BadEvent : Str} {N_BadEvent : Addr} {bs_BadEvent bm_BadEvent sb_BadEvent : List Value} {sn_BadEvent : List Str} {ab_BadEvent : Bool} {col_BadEvent : Option Bool} {dd_BadEvent : Option Addr} {k0_BadEvent k1_BadEvent k2_BadEvent k3_BadEvent k5_BadEvent : Option Value}
    {fI_BadEvent cc_BadEvent cda_BadEvent : Addr} {oc_BadEvent kV_BadEvent dc_BadEvent pm_BadEvent ct_BadEvent : Value} {od_BadEvent an_BadEvent : Option Addr} {sl_BadEvent : Array (Option Value)}
    {cl_BadEvent ccl_BadEvent : Value} {cld_BadEvent cdd_BadEvent : Option Addr} {csl_BadEvent ccs_BadEvent : Array (Option Value)} {cvs_BadEvent : Array Value} {file_BadEvent : Str} {tf_BadEvent : Tok} {cd_BadEvent : ClassData}
    {lc0_BadEvent : Value} {ld0_BadEvent : Option Addr} {lcd_BadEvent : ClassData} {ls0_BadEvent : Array (Option Value)}
    {nm_BadNote q_BadNote : Str} {N_BadNote : Addr} {bs_BadNote bm_BadNote sb_BadNote : List Value} {sn_BadNote : List Str} {ab_BadNote : Bool} {col_BadNote : Option Bool} {dd_BadNote : Option Addr} {k0_BadNote k1_BadNote k2_BadNote k3_BadNote k5_BadNote : Option Value}
    {fI_BadNote cc_BadNote cda_BadNote : Addr} {oc_BadNote kV_BadNote dc_BadNote pm_BadNote ct_BadNote : Value} {od_BadNote an_BadNote : Option Addr} {sl_BadNote : Array (Option Value)}
    {cl_BadNote ccl_BadNote : Value} {cld_BadNote cdd_BadNote : Option Addr} {csl_BadNote ccs_BadNote : Array (Option Value)} {cvs_BadNote : Array Value} {file_BadNote : Str} {tf_BadNote : Tok} {cd_BadNote : ClassData}
    {lc0_BadNote : Value} {ld0_BadNote : Option Addr} {lcd_BadNote : ClassData} {ls0_BadNote : Array (Option Value)}
    {nm_TooMany q_TooMany : Str} {N_TooMany : Addr} {bs_TooMany bm_TooMany sb_TooMany : List Value} {sn_TooMany : List Str} {ab_TooMany : Bool} {col_TooMany : Option Bool} {dd_TooMany : Option Addr} {k0_TooMany k1_TooMany k2_TooMany k3_TooMany k5_TooMany : Option Value}
    {fI_TooMany cc_TooMany cda_TooMany : Addr} {oc_TooMany kV_TooMany dc_TooMany pm_TooMany ct_TooMany : Value} {od_TooMany an_TooMany : Option Addr} {sl_TooMany : Array (Option Value)}
    {cl_TooMany ccl_TooMany : Value} {cld_TooMany cdd_TooMany : Option Addr} {csl_TooMany ccs_TooMany : Array (Option Value)} {cvs_TooMany : Array Value} {file_TooMany : Str} {tf_TooMany : Tok} {cd_TooMany : ClassData}
    {lc0_TooMany : Value} {ld0_TooMany : Option Addr} {lcd_TooMany : ClassData} {ls0_TooMany : Array (Option Value)}
    {nm_Unknown q_Unknown : Str} {N_Unknown : Addr} {bs_Unknown bm_Unknown sb_Unknown : List Value} {sn_Unknown : List Str} {ab_Unknown : Bool} {col_Unknown : Option Bool} {dd_Unknown : Option Addr} {k0_Unknown k1_Unknown k2_Unknown k3_Unknown k5_Unknown : Option Value}
    {fI_Unknown cc_Unknown cda_Unknown : Addr} {oc_Unknown kV_Unknown dc_Unknown pm_Unknown ct_Unknown : Value} {od_Unknown an_Unknown : Option Addr} {sl_Unknown : Array (Option Value)}
    {cl_Unknown ccl_Unknown : Value} {cld_Unknown cdd_Unknown : Option Addr} {csl_Unknown ccs_Unknown : Array (Option Value)} {cvs_Unknown : Array Value} {file_Unknown : Str} {tf_Unknown : Tok} {cd_Unknown : ClassData}
    {lc0_Unknown : Value} {ld0_Unknown : Option Addr} {lcd_Unknown : ClassData} {ls0_Unknown : Array (Option Value)}
    {nm_Taken q_Taken : Str} {N_Taken : Addr} {bs_Taken bm_Taken sb_Taken : List Value} {sn_Taken : List Str} {ab_Taken : Bool} {col_Taken : Option Bool} {dd_Taken : Option Addr} {k0_Taken k1_Taken k2_Taken k3_Taken k5_Taken : Option Value}
    {fI_Taken cc_Taken cda_Taken : Addr} {oc_Taken kV_Taken dc_Taken pm_Taken ct_Taken : Value} {od_Taken an_Taken : Option Addr} {sl_Taken : Array (Option Value)}
    {cl_Taken ccl_Taken : Value} {cld_Taken cdd_Taken : Option Addr} {csl_Taken ccs_Taken : Array (Option Value)} {cvs_Taken : Array Value} {file_Taken : Str} {tf_Taken : Tok} {cd_Taken : ClassData}
    {lc0_Taken : Value} {ld0_Taken : Option Addr} {lcd_Taken : ClassData} {ls0_Taken : Array (Option Value)}
    {nm_Refused q_Refused : Str} {N_Refused : Addr} {bs_Refused bm_Refused sb_Refused : List Value} {sn_Refused : List Str} {ab_Refused : Bool} {col_Refused : Option Bool} {dd_Refused : Option Addr} {k0_Refused k1_Refused k2_Refused k3_Refused k5_Refused : Option Value}
    {fI_Refused cc_Refused cda_Refused : Addr} {oc_Refused kV_Refused dc_Refused pm_Refused ct_Refused : Value} {od_Refused an_Refused : Option Addr} {sl_Refused : Array (Option Value)}
    {cl_Refused ccl_Refused : Value} {cld_Refused cdd_Refused : Option Addr} {csl_Refused ccs_Refused : Array (Option Value)} {cvs_Refused : Array Value} {file_Refused : Str} {tf_Refused : Tok} {cd_Refused : ClassData}
    {lc0_Refused : Value} {ld0_Refused : Option Addr} {lcd_Refused : ClassData} {ls0_Refused : Array (Option Value)}
    {f__law_alike : Addr} {od__law_alike an__law_alike : Option Addr} {sl__law_alike : Array (Option Value)} {oc__law_alike kV__law_alike dc__law_alike pm__law_alike cd__law_alike ct__law_alike : Value}
    {f__law_taken : Addr} {od__law_taken an__law_taken : Option Addr} {sl__law_taken : Array (Option Value)} {oc__law_taken kV__law_taken dc__law_taken pm__law_taken cd__law_taken ct__law_taken : Value}
    {f__law_pick : Addr} {od__law_pick an__law_pick : Option Addr} {sl__law_pick : Array (Option Value)} {oc__law_pick kV__law_pick dc__law_pick pm__law_pick cd__law_pick ct__law_pick : Value}
    {f__law_raised : Addr} {od__law_raised an__law_raised : Option Addr} {sl__law_raised : Array (Option Value)} {oc__law_raised kV__law_raised dc__law_raised pm__law_raised cd__law_raised ct__law_raised : Value}
    {f_law : Addr} {od_law an_law : Option Addr} {sl_law : Array (Option Value)} {oc_law kV_law dc_law pm_law cd_law ct_law : Value}
    (z_LookupError : PySem.W.nsIn K mainGlobals "LookupError" = some none)
    (z_RuntimeError : PySem.W.nsIn K mainGlobals "RuntimeError" = some none)
    (z_ValueError : PySem.W.nsIn K mainGlobals "ValueError" = some none)
    (z_bool_ : PySem.W.nsIn K mainGlobals "bool" = some none)
    (z_int_ : PySem.W.nsIn K mainGlobals "int" = some none)
    (z_isinstance : PySem.W.nsIn K mainGlobals "isinstance" = some none)
    (z_len : PySem.W.nsIn K mainGlobals "len" = some none)
    (z_list : PySem.W.nsIn K mainGlobals "list" = some none)
    (z_range : PySem.W.nsIn K mainGlobals "range" = some none)
    (z_str_ : PySem.W.nsIn K mainGlobals "str" = some none)
    (z_super : PySem.W.nsIn K mainGlobals "super" = some none)
    (z_tuple : PySem.W.nsIn K mainGlobals "tuple" = some none)
    (a_HutsError : PySem.W.nsIn K mainGlobals "HutsError" = some (some (.ref C_HutsError)))
    (a_BadNumber : PySem.W.nsIn K mainGlobals "BadNumber" = some (some (.ref C_BadNumber)))
    (a_BadName : PySem.W.nsIn K mainGlobals "BadName" = some (some (.ref C_BadName)))
    (a_BadItem : PySem.W.nsIn K mainGlobals "BadItem" = some (some (.ref C_BadItem)))
    (a_BadEvent : PySem.W.nsIn K mainGlobals "BadEvent" = some (some (.ref C_BadEvent)))
    (a_BadNote : PySem.W.nsIn K mainGlobals "BadNote" = some (some (.ref C_BadNote)))
    (a_TooMany : PySem.W.nsIn K mainGlobals "TooMany" = some (some (.ref C_TooMany)))
    (a_Unknown : PySem.W.nsIn K mainGlobals "Unknown" = some (some (.ref C_Unknown)))
    (a_Taken : PySem.W.nsIn K mainGlobals "Taken" = some (some (.ref C_Taken)))
    (a_Refused : PySem.W.nsIn K mainGlobals "Refused" = some (some (.ref C_Refused)))
    (a_NothingToUndo : PySem.W.nsIn K mainGlobals "NothingToUndo" = some (some (.ref C_NothingToUndo)))
    (anyT : PySem.W.nsIn K cStatics "thirdparty.any" = some none)
    (l_BadNumber : K.lookup C_BadNumber = some (excClassObj nm_BadNumber q_BadNumber C_BadNumber N_BadNumber bs_BadNumber bm_BadNumber true sn_BadNumber sb_BadNumber ab_BadNumber col_BadNumber dd_BadNumber k0_BadNumber k1_BadNumber k2_BadNumber k3_BadNumber k5_BadNumber "ValueError.__new__"))
    (v_BadNumber : PySem.HandSPX.refsVE bm_BadNumber = true)
    (s_BadNumber : PySem.W.findIn K (.ref C_BadNumber) "__setattr__" = some (some (.builtin "object.__setattr__")))
    (e_BadNumber : PySem.W.subIn K (.ref C_BadNumber) (.type "BaseException") = some true)
    (t_BadNumber : PySem.W.typeIn K (.ref C_BadNumber) = some (.type "type"))
    (k_BadNumber : PySem.W.keepIn K (.ref C_BadNumber) = true)
    (i_BadNumber : PySem.W.findIn K (.ref C_BadNumber) "__init__" = some (some (.ref fI_BadNumber)))
    (it_BadNumber : PySem.W.typeIn K (.ref fI_BadNumber) = some (.type "function"))
    (il_BadNumber : K.lookup fI_BadNumber = some ⟨oc_BadNumber, od_BadNumber, .func (PySem.W.fnX "__init__" "BadNumber.__init__" (defArgs (inClass (top 2) 0)) (defBody (inClass (top 2) 0)) (defScope (inClass (top 2) 0)) [("__class__", cc_BadNumber)] .none kV_BadNumber dc_BadNumber pm_BadNumber an_BadNumber (.ref cda_BadNumber) ct_BadNumber), sl_BadNumber⟩)
    (ic_BadNumber : PySem.W.codeIn K (.ref cda_BadNumber) "BadNumber.__init__" = true)
    (cc_BadNumber' : K.lookup cc_BadNumber = some ⟨cl_BadNumber, cld_BadNumber, .cell (some (.ref C_BadNumber)), csl_BadNumber⟩)
    (co_BadNumber : K.lookup cda_BadNumber = some ⟨ccl_BadNumber, cdd_BadNumber, .fields cvs_BadNumber, ccs_BadNumber⟩)
    (cv_BadNumber : cvs_BadNumber[2]? = some (.str file_BadNumber tf_BadNumber))
    (cf_BadNumber : (PySem.Challenge.pw_huttohut_k09_errors.main.file == file_BadNumber) = true)
    (cd_BadNumber' : PySem.W.clsIn K C_BadNumber = some cd_BadNumber)
    (m_BadNumber : PySem.W.mroIn K C_BadNumber (.ref C_BadNumber) = some true)
    (lb_BadNumber : K.lookup C_HutsError = some ⟨lc0_BadNumber, ld0_BadNumber, .cls lcd_BadNumber, ls0_BadNumber⟩)
    (fi_BadNumber : PySem.W.findIn K (.ref C_HutsError) "__init__" = some (some (.builtin "ValueError.__init__")))
    (mr_BadNumber : (cd_BadNumber.mro.dropWhile (· != .ref C_BadNumber)).drop 1 = lcd_BadNumber.mro)
    (b_BadNumber : PySem.W.subIn K (.ref C_BadNumber) (.type "ValueError") = some true)
    (n_BadNumber_value : PySem.W.findIn K (.ref C_BadNumber) "value" = some none)
    (l_BadName : K.lookup C_BadName = some (excClassObj nm_BadName q_BadName C_BadName N_BadName bs_BadName bm_BadName true sn_BadName sb_BadName ab_BadName col_BadName dd_BadName k0_BadName k1_BadName k2_BadName k3_BadName k5_BadName "ValueError.__new__"))
    (v_BadName : PySem.HandSPX.refsVE bm_BadName = true)
    (s_BadName : PySem.W.findIn K (.ref C_BadName) "__setattr__" = some (some (.builtin "object.__setattr__")))
    (e_BadName : PySem.W.subIn K (.ref C_BadName) (.type "BaseException") = some true)
    (t_BadName : PySem.W.typeIn K (.ref C_BadName) = some (.type "type"))
    (k_BadName : PySem.W.keepIn K (.ref C_BadName) = true)
    (i_BadName : PySem.W.findIn K (.ref C_BadName) "__init__" = some (some (.ref fI_BadName)))
    (it_BadName : PySem.W.typeIn K (.ref fI_BadName) = some (.type "function"))
    (il_BadName : K.lookup fI_BadName = some ⟨oc_BadName, od_BadName, .func (PySem.W.fnX "__init__" "BadName.__init__" (defArgs (inClass (top 3) 0)) (defBody (inClass (top 3) 0)) (defScope (inClass (top 3) 0)) [("__class__", cc_BadName)] .none kV_BadName dc_BadName pm_BadName an_BadName (.ref cda_BadName) ct_BadName), sl_BadName⟩)
    (ic_BadName : PySem.W.codeIn K (.ref cda_BadName) "BadName.__init__" = true)
    (cc_BadName' : K.lookup cc_BadName = some ⟨cl_BadName, cld_BadName, .cell (some (.ref C_BadName)), csl_BadName⟩)
    (co_BadName : K.lookup cda_BadName = some ⟨ccl_BadName, cdd_BadName, .fields cvs_BadName, ccs_BadName⟩)
    (cv_BadName : cvs_BadName[2]? = some (.str file_BadName tf_BadName))
    (cf_BadName : (PySem.Challenge.pw_huttohut_k09_errors.main.file == file_BadName) = true)
    (cd_BadName' : PySem.W.clsIn K C_BadName = some cd_BadName)
    (m_BadName : PySem.W.mroIn K C_BadName (.ref C_BadName) = some true)
    (lb_BadName : K.lookup C_HutsError = some ⟨lc0_BadName, ld0_BadName, .cls lcd_BadName, ls0_BadName⟩)
    (fi_BadName : PySem.W.findIn K (.ref C_HutsError) "__init__" = some (some (.builtin "ValueError.__init__")))
    (mr_BadName : (cd_BadName.mro.dropWhile (· != .ref C_BadName)).drop 1 = lcd_BadName.mro)
    (b_BadName : PySem.W.subIn K (.ref C_BadName) (.type "ValueError") = some true)
    (n_BadName_value : PySem.W.findIn K (.ref C_BadName) "value" = some none)
    (l_BadItem : K.lookup C_BadItem = some (excClassObj nm_BadItem q_BadItem C_BadItem N_BadItem bs_BadItem bm_BadItem true sn_BadItem sb_BadItem ab_BadItem col_BadItem dd_BadItem k0_BadItem k1_BadItem k2_BadItem k3_BadItem k5_BadItem "ValueError.__new__"))
    (v_BadItem : PySem.HandSPX.refsVE bm_BadItem = true)
    (s_BadItem : PySem.W.findIn K (.ref C_BadItem) "__setattr__" = some (some (.builtin "object.__setattr__")))
    (e_BadItem : PySem.W.subIn K (.ref C_BadItem) (.type "BaseException") = some true)
    (t_BadItem : PySem.W.typeIn K (.ref C_BadItem) = some (.type "type"))
    (k_BadItem : PySem.W.keepIn K (.ref C_BadItem) = true)
    (i_BadItem : PySem.W.findIn K (.ref C_BadItem) "__init__" = some (some (.ref fI_BadItem)))
    (it_BadItem : PySem.W.typeIn K (.ref fI_BadItem) = some (.type "function"))
    (il_BadItem : K.lookup fI_BadItem = some ⟨oc_BadItem, od_BadItem, .func (PySem.W.fnX "__init__" "BadItem.__init__" (defArgs (inClass (top 4) 0)) (defBody (inClass (top 4) 0)) (defScope (inClass (top 4) 0)) [("__class__", cc_BadItem)] .none kV_BadItem dc_BadItem pm_BadItem an_BadItem (.ref cda_BadItem) ct_BadItem), sl_BadItem⟩)
    (ic_BadItem : PySem.W.codeIn K (.ref cda_BadItem) "BadItem.__init__" = true)
    (cc_BadItem' : K.lookup cc_BadItem = some ⟨cl_BadItem, cld_BadItem, .cell (some (.ref C_BadItem)), csl_BadItem⟩)
    (co_BadItem : K.lookup cda_BadItem = some ⟨ccl_BadItem, cdd_BadItem, .fields cvs_BadItem, ccs_BadItem⟩)
    (cv_BadItem : cvs_BadItem[2]? = some (.str file_BadItem tf_BadItem))
    (cf_BadItem : (PySem.Challenge.pw_huttohut_k09_errors.main.file == file_BadItem) = true)
    (cd_BadItem' : PySem.W.clsIn K C_BadItem = some cd_BadItem)
    (m_BadItem : PySem.W.mroIn K C_BadItem (.ref C_BadItem) = some true)
    (lb_BadItem : K.lookup C_HutsError = some ⟨lc0_BadItem, ld0_BadItem, .cls lcd_BadItem, ls0_BadItem⟩)
    (fi_BadItem : PySem.W.findIn K (.ref C_HutsError) "__init__" = some (some (.builtin "ValueError.__init__")))
    (mr_BadItem : (cd_BadItem.mro.dropWhile (· != .ref C_BadItem)).drop 1 = lcd_BadItem.mro)
    (b_BadItem : PySem.W.subIn K (.ref C_BadItem) (.type "ValueError") = some true)
    (n_BadItem_index : PySem.W.findIn K (.ref C_BadItem) "index" = some none)
    (l_BadEvent : K.lookup C_BadEvent = some (excClassObj nm_BadEvent q_BadEvent C_BadEvent N_BadEvent bs_BadEvent bm_BadEvent true sn_BadEvent sb_BadEvent ab_BadEvent col_BadEvent dd_BadEvent k0_BadEvent k1_BadEvent k2_BadEvent k3_BadEvent k5_BadEvent "ValueError.__new__"))
    (v_BadEvent : PySem.HandSPX.refsVE bm_BadEvent = true)
    (s_BadEvent : PySem.W.findIn K (.ref C_BadEvent) "__setattr__" = some (some (.builtin "object.__setattr__")))
    (e_BadEvent : PySem.W.subIn K (.ref C_BadEvent) (.type "BaseException") = some true)
    (t_BadEvent : PySem.W.typeIn K (.ref C_BadEvent) = some (.type "type"))
    (k_BadEvent : PySem.W.keepIn K (.ref C_BadEvent) = true)
    (i_BadEvent : PySem.W.findIn K (.ref C_BadEvent) "__init__" = some (some (.ref fI_BadEvent)))
    (it_BadEvent : PySem.W.typeIn K (.ref fI_BadEvent) = some (.type "function"))
    (il_BadEvent : K.lookup fI_BadEvent = some ⟨oc_BadEvent, od_BadEvent, .func (PySem.W.fnX "__init__" "BadEvent.__init__" (defArgs (inClass (top 5) 0)) (defBody (inClass (top 5) 0)) (defScope (inClass (top 5) 0)) [("__class__", cc_BadEvent)] .none kV_BadEvent dc_BadEvent pm_BadEvent an_BadEvent (.ref cda_BadEvent) ct_BadEvent), sl_BadEvent⟩)
    (ic_BadEvent : PySem.W.codeIn K (.ref cda_BadEvent) "BadEvent.__init__" = true)
    (cc_BadEvent' : K.lookup cc_BadEvent = some ⟨cl_BadEvent, cld_BadEvent, .cell (some (.ref C_BadEvent)), csl_BadEvent⟩)
    (co_BadEvent : K.lookup cda_BadEvent = some ⟨ccl_BadEvent, cdd_BadEvent, .fields cvs_BadEvent, ccs_BadEvent⟩)
    (cv_BadEvent : cvs_BadEvent[2]? = some (.str file_BadEvent tf_BadEvent))
    (cf_BadEvent : (PySem.Challenge.pw_huttohut_k09_errors.main.file == file_BadEvent) = true)
    (cd_BadEvent' : PySem.W.clsIn K C_BadEvent = some cd_BadEvent)
    (m_BadEvent : PySem.W.mroIn K C_BadEvent (.ref C_BadEvent) = some true)
    (lb_BadEvent : K.lookup C_HutsError = some ⟨lc0_BadEvent, ld0_BadEvent, .cls lcd_BadEvent, ls0_BadEvent⟩)
    (fi_BadEvent : PySem.W.findIn K (.ref C_HutsError) "__init__" = some (some (.builtin "ValueError.__init__")))
    (mr_BadEvent : (cd_BadEvent.mro.dropWhile (· != .ref C_BadEvent)).drop 1 = lcd_BadEvent.mro)
    (b_BadEvent : PySem.W.subIn K (.ref C_BadEvent) (.type "ValueError") = some true)
    (n_BadEvent_value : PySem.W.findIn K (.ref C_BadEvent) "value" = some none)
    (l_BadNote : K.lookup C_BadNote = some (excClassObj nm_BadNote q_BadNote C_BadNote N_BadNote bs_BadNote bm_BadNote true sn_BadNote sb_BadNote ab_BadNote col_BadNote dd_BadNote k0_BadNote k1_BadNote k2_BadNote k3_BadNote k5_BadNote "ValueError.__new__"))
    (v_BadNote : PySem.HandSPX.refsVE bm_BadNote = true)
    (s_BadNote : PySem.W.findIn K (.ref C_BadNote) "__setattr__" = some (some (.builtin "object.__setattr__")))
    (e_BadNote : PySem.W.subIn K (.ref C_BadNote) (.type "BaseException") = some true)
    (t_BadNote : PySem.W.typeIn K (.ref C_BadNote) = some (.type "type"))
    (k_BadNote : PySem.W.keepIn K (.ref C_BadNote) = true)
    (i_BadNote : PySem.W.findIn K (.ref C_BadNote) "__init__" = some (some (.ref fI_BadNote)))
    (it_BadNote : PySem.W.typeIn K (.ref fI_BadNote) = some (.type "function"))
    (il_BadNote : K.lookup fI_BadNote = some ⟨oc_BadNote, od_BadNote, .func (PySem.W.fnX "__init__" "BadNote.__init__" (defArgs (inClass (top 6) 0)) (defBody (inClass (top 6) 0)) (defScope (inClass (top 6) 0)) [("__class__", cc_BadNote)] .none kV_BadNote dc_BadNote pm_BadNote an_BadNote (.ref cda_BadNote) ct_BadNote), sl_BadNote⟩)
    (ic_BadNote : PySem.W.codeIn K (.ref cda_BadNote) "BadNote.__init__" = true)
    (cc_BadNote' : K.lookup cc_BadNote = some ⟨cl_BadNote, cld_BadNote, .cell (some (.ref C_BadNote)), csl_BadNote⟩)
    (co_BadNote : K.lookup cda_BadNote = some ⟨ccl_BadNote, cdd_BadNote, .fields cvs_BadNote, ccs_BadNote⟩)
    (cv_BadNote : cvs_BadNote[2]? = some (.str file_BadNote tf_BadNote))
    (cf_BadNote : (PySem.Challenge.pw_huttohut_k09_errors.main.file == file_BadNote) = true)
    (cd_BadNote' : PySem.W.clsIn K C_BadNote = some cd_BadNote)
    (m_BadNote : PySem.W.mroIn K C_BadNote (.ref C_BadNote) = some true)
    (lb_BadNote : K.lookup C_HutsError = some ⟨lc0_BadNote, ld0_BadNote, .cls lcd_BadNote, ls0_BadNote⟩)
    (fi_BadNote : PySem.W.findIn K (.ref C_HutsError) "__init__" = some (some (.builtin "ValueError.__init__")))
    (mr_BadNote : (cd_BadNote.mro.dropWhile (· != .ref C_BadNote)).drop 1 = lcd_BadNote.mro)
    (b_BadNote : PySem.W.subIn K (.ref C_BadNote) (.type "ValueError") = some true)
    (n_BadNote_line : PySem.W.findIn K (.ref C_BadNote) "line" = some none)
    (l_TooMany : K.lookup C_TooMany = some (excClassObj nm_TooMany q_TooMany C_TooMany N_TooMany bs_TooMany bm_TooMany true sn_TooMany sb_TooMany ab_TooMany col_TooMany dd_TooMany k0_TooMany k1_TooMany k2_TooMany k3_TooMany k5_TooMany "ValueError.__new__"))
    (v_TooMany : PySem.HandSPX.refsVE bm_TooMany = true)
    (s_TooMany : PySem.W.findIn K (.ref C_TooMany) "__setattr__" = some (some (.builtin "object.__setattr__")))
    (e_TooMany : PySem.W.subIn K (.ref C_TooMany) (.type "BaseException") = some true)
    (t_TooMany : PySem.W.typeIn K (.ref C_TooMany) = some (.type "type"))
    (k_TooMany : PySem.W.keepIn K (.ref C_TooMany) = true)
    (i_TooMany : PySem.W.findIn K (.ref C_TooMany) "__init__" = some (some (.ref fI_TooMany)))
    (it_TooMany : PySem.W.typeIn K (.ref fI_TooMany) = some (.type "function"))
    (il_TooMany : K.lookup fI_TooMany = some ⟨oc_TooMany, od_TooMany, .func (PySem.W.fnX "__init__" "TooMany.__init__" (defArgs (inClass (top 7) 0)) (defBody (inClass (top 7) 0)) (defScope (inClass (top 7) 0)) [("__class__", cc_TooMany)] .none kV_TooMany dc_TooMany pm_TooMany an_TooMany (.ref cda_TooMany) ct_TooMany), sl_TooMany⟩)
    (ic_TooMany : PySem.W.codeIn K (.ref cda_TooMany) "TooMany.__init__" = true)
    (cc_TooMany' : K.lookup cc_TooMany = some ⟨cl_TooMany, cld_TooMany, .cell (some (.ref C_TooMany)), csl_TooMany⟩)
    (co_TooMany : K.lookup cda_TooMany = some ⟨ccl_TooMany, cdd_TooMany, .fields cvs_TooMany, ccs_TooMany⟩)
    (cv_TooMany : cvs_TooMany[2]? = some (.str file_TooMany tf_TooMany))
    (cf_TooMany : (PySem.Challenge.pw_huttohut_k09_errors.main.file == file_TooMany) = true)
    (cd_TooMany' : PySem.W.clsIn K C_TooMany = some cd_TooMany)
    (m_TooMany : PySem.W.mroIn K C_TooMany (.ref C_TooMany) = some true)
    (lb_TooMany : K.lookup C_HutsError = some ⟨lc0_TooMany, ld0_TooMany, .cls lcd_TooMany, ls0_TooMany⟩)
    (fi_TooMany : PySem.W.findIn K (.ref C_HutsError) "__init__" = some (some (.builtin "ValueError.__init__")))
    (mr_TooMany : (cd_TooMany.mro.dropWhile (· != .ref C_TooMany)).drop 1 = lcd_TooMany.mro)
    (b_TooMany : PySem.W.subIn K (.ref C_TooMany) (.type "ValueError") = some true)
    (n_TooMany_limit : PySem.W.findIn K (.ref C_TooMany) "limit" = some none)
    (l_Unknown : K.lookup C_Unknown = some (excClassObj nm_Unknown q_Unknown C_Unknown N_Unknown bs_Unknown bm_Unknown true sn_Unknown sb_Unknown ab_Unknown col_Unknown dd_Unknown k0_Unknown k1_Unknown k2_Unknown k3_Unknown k5_Unknown "ValueError.__new__"))
    (v_Unknown : PySem.HandSPX.refsVE bm_Unknown = true)
    (s_Unknown : PySem.W.findIn K (.ref C_Unknown) "__setattr__" = some (some (.builtin "object.__setattr__")))
    (e_Unknown : PySem.W.subIn K (.ref C_Unknown) (.type "BaseException") = some true)
    (t_Unknown : PySem.W.typeIn K (.ref C_Unknown) = some (.type "type"))
    (k_Unknown : PySem.W.keepIn K (.ref C_Unknown) = true)
    (i_Unknown : PySem.W.findIn K (.ref C_Unknown) "__init__" = some (some (.ref fI_Unknown)))
    (it_Unknown : PySem.W.typeIn K (.ref fI_Unknown) = some (.type "function"))
    (il_Unknown : K.lookup fI_Unknown = some ⟨oc_Unknown, od_Unknown, .func (PySem.W.fnX "__init__" "Unknown.__init__" (defArgs (inClass (top 8) 0)) (defBody (inClass (top 8) 0)) (defScope (inClass (top 8) 0)) [("__class__", cc_Unknown)] .none kV_Unknown dc_Unknown pm_Unknown an_Unknown (.ref cda_Unknown) ct_Unknown), sl_Unknown⟩)
    (ic_Unknown : PySem.W.codeIn K (.ref cda_Unknown) "Unknown.__init__" = true)
    (cc_Unknown' : K.lookup cc_Unknown = some ⟨cl_Unknown, cld_Unknown, .cell (some (.ref C_Unknown)), csl_Unknown⟩)
    (co_Unknown : K.lookup cda_Unknown = some ⟨ccl_Unknown, cdd_Unknown, .fields cvs_Unknown, ccs_Unknown⟩)
    (cv_Unknown : cvs_Unknown[2]? = some (.str file_Unknown tf_Unknown))
    (cf_Unknown : (PySem.Challenge.pw_huttohut_k09_errors.main.file == file_Unknown) = true)
    (cd_Unknown' : PySem.W.clsIn K C_Unknown = some cd_Unknown)
    (m_Unknown : PySem.W.mroIn K C_Unknown (.ref C_Unknown) = some true)
    (lb_Unknown : K.lookup C_HutsError = some ⟨lc0_Unknown, ld0_Unknown, .cls lcd_Unknown, ls0_Unknown⟩)
    (fi_Unknown : PySem.W.findIn K (.ref C_HutsError) "__init__" = some (some (.builtin "ValueError.__init__")))
    (mr_Unknown : (cd_Unknown.mro.dropWhile (· != .ref C_Unknown)).drop 1 = lcd_Unknown.mro)
    (b_Unknown : PySem.W.subIn K (.ref C_Unknown) (.type "ValueError") = some true)
    (n_Unknown_value : PySem.W.findIn K (.ref C_Unknown) "value" = some none)
    (l_Taken : K.lookup C_Taken = some (excClassObj nm_Taken q_Taken C_Taken N_Taken bs_Taken bm_Taken true sn_Taken sb_Taken ab_Taken col_Taken dd_Taken k0_Taken k1_Taken k2_Taken k3_Taken k5_Taken "ValueError.__new__"))
    (v_Taken : PySem.HandSPX.refsVE bm_Taken = true)
    (s_Taken : PySem.W.findIn K (.ref C_Taken) "__setattr__" = some (some (.builtin "object.__setattr__")))
    (e_Taken : PySem.W.subIn K (.ref C_Taken) (.type "BaseException") = some true)
    (t_Taken : PySem.W.typeIn K (.ref C_Taken) = some (.type "type"))
    (k_Taken : PySem.W.keepIn K (.ref C_Taken) = true)
    (i_Taken : PySem.W.findIn K (.ref C_Taken) "__init__" = some (some (.ref fI_Taken)))
    (it_Taken : PySem.W.typeIn K (.ref fI_Taken) = some (.type "function"))
    (il_Taken : K.lookup fI_Taken = some ⟨oc_Taken, od_Taken, .func (PySem.W.fnX "__init__" "Taken.__init__" (defArgs (inClass (top 9) 0)) (defBody (inClass (top 9) 0)) (defScope (inClass (top 9) 0)) [("__class__", cc_Taken)] .none kV_Taken dc_Taken pm_Taken an_Taken (.ref cda_Taken) ct_Taken), sl_Taken⟩)
    (ic_Taken : PySem.W.codeIn K (.ref cda_Taken) "Taken.__init__" = true)
    (cc_Taken' : K.lookup cc_Taken = some ⟨cl_Taken, cld_Taken, .cell (some (.ref C_Taken)), csl_Taken⟩)
    (co_Taken : K.lookup cda_Taken = some ⟨ccl_Taken, cdd_Taken, .fields cvs_Taken, ccs_Taken⟩)
    (cv_Taken : cvs_Taken[2]? = some (.str file_Taken tf_Taken))
    (cf_Taken : (PySem.Challenge.pw_huttohut_k09_errors.main.file == file_Taken) = true)
    (cd_Taken' : PySem.W.clsIn K C_Taken = some cd_Taken)
    (m_Taken : PySem.W.mroIn K C_Taken (.ref C_Taken) = some true)
    (lb_Taken : K.lookup C_HutsError = some ⟨lc0_Taken, ld0_Taken, .cls lcd_Taken, ls0_Taken⟩)
    (fi_Taken : PySem.W.findIn K (.ref C_HutsError) "__init__" = some (some (.builtin "ValueError.__init__")))
    (mr_Taken : (cd_Taken.mro.dropWhile (· != .ref C_Taken)).drop 1 = lcd_Taken.mro)
    (b_Taken : PySem.W.subIn K (.ref C_Taken) (.type "ValueError") = some true)
    (n_Taken_value : PySem.W.findIn K (.ref C_Taken) "value" = some none)
    (l_Refused : K.lookup C_Refused = some (excClassObj nm_Refused q_Refused C_Refused N_Refused bs_Refused bm_Refused true sn_Refused sb_Refused ab_Refused col_Refused dd_Refused k0_Refused k1_Refused k2_Refused k3_Refused k5_Refused "ValueError.__new__"))
    (v_Refused : PySem.HandSPX.refsVE bm_Refused = true)
    (s_Refused : PySem.W.findIn K (.ref C_Refused) "__setattr__" = some (some (.builtin "object.__setattr__")))
    (e_Refused : PySem.W.subIn K (.ref C_Refused) (.type "BaseException") = some true)
    (t_Refused : PySem.W.typeIn K (.ref C_Refused) = some (.type "type"))
    (k_Refused : PySem.W.keepIn K (.ref C_Refused) = true)
    (i_Refused : PySem.W.findIn K (.ref C_Refused) "__init__" = some (some (.ref fI_Refused)))
    (it_Refused : PySem.W.typeIn K (.ref fI_Refused) = some (.type "function"))
    (il_Refused : K.lookup fI_Refused = some ⟨oc_Refused, od_Refused, .func (PySem.W.fnX "__init__" "Refused.__init__" (defArgs (inClass (top 10) 0)) (defBody (inClass (top 10) 0)) (defScope (inClass (top 10) 0)) [("__class__", cc_Refused)] .none kV_Refused dc_Refused pm_Refused an_Refused (.ref cda_Refused) ct_Refused), sl_Refused⟩)
    (ic_Refused : PySem.W.codeIn K (.ref cda_Refused) "Refused.__init__" = true)
    (cc_Refused' : K.lookup cc_Refused = some ⟨cl_Refused, cld_Refused, .cell (some (.ref C_Refused)), csl_Refused⟩)
    (co_Refused : K.lookup cda_Refused = some ⟨ccl_Refused, cdd_Refused, .fields cvs_Refused, ccs_Refused⟩)
    (cv_Refused : cvs_Refused[2]? = some (.str file_Refused tf_Refused))
    (cf_Refused : (PySem.Challenge.pw_huttohut_k09_errors.main.file == file_Refused) = true)
    (cd_Refused' : PySem.W.clsIn K C_Refused = some cd_Refused)
    (m_Refused : PySem.W.mroIn K C_Refused (.ref C_Refused) = some true)
    (lb_Refused : K.lookup C_HutsError = some ⟨lc0_Refused, ld0_Refused, .cls lcd_Refused, ls0_Refused⟩)
    (fi_Refused : PySem.W.findIn K (.ref C_HutsError) "__init__" = some (some (.builtin "ValueError.__init__")))
    (mr_Refused : (cd_Refused.mro.dropWhile (· != .ref C_Refused)).drop 1 = lcd_Refused.mro)
    (b_Refused : PySem.W.subIn K (.ref C_Refused) (.type "ValueError") = some true)
    (n_Refused_reason : PySem.W.findIn K (.ref C_Refused) "reason" = some none)
    (n_Refused_names : PySem.W.findIn K (.ref C_Refused) "names" = some none)
    (hnG : PySem.W.specialIn K (.builtin "object.__class__") "__get__" = some (some (.builtin "getset_descriptor.__get__")))
    (htG : PySem.W.takesIn K (.builtin "object.__class__") = some true)
    (e_HutsError : PySem.W.subIn K (.ref C_HutsError) (.type "BaseException") = some true)
    (t_HutsError : PySem.W.typeIn K (.ref C_HutsError) = some (.type "type"))
    (x1_HutsError : PySem.W.findIn K (.ref C_HutsError) "__getattribute__" = some (some (.builtin "BaseException.__getattribute__")))
    (x2_HutsError : PySem.W.findIn K (.ref C_HutsError) "__getattr__" = some none)
    (x4_HutsError : PySem.W.hasDictIn K C_HutsError = true)
    (ha_HutsError : PySem.W.findIn K (.ref C_HutsError) "__class__" = some (some (.builtin "object.__class__")))
    (hm_HutsError : PySem.W.mroIn K C_HutsError (.type "object") = some true)
    (n_HutsError_index : PySem.W.findIn K (.ref C_HutsError) "index" = some none)
    (n_HutsError_limit : PySem.W.findIn K (.ref C_HutsError) "limit" = some none)
    (n_HutsError_line : PySem.W.findIn K (.ref C_HutsError) "line" = some none)
    (n_HutsError_names : PySem.W.findIn K (.ref C_HutsError) "names" = some none)
    (n_HutsError_reason : PySem.W.findIn K (.ref C_HutsError) "reason" = some none)
    (n_HutsError_value : PySem.W.findIn K (.ref C_HutsError) "value" = some none)
    (sv_HutsError_LookupError : PySem.W.subIn K (.ref C_HutsError) (.type "LookupError") = some false)
    (sv_HutsError_RuntimeError : PySem.W.subIn K (.ref C_HutsError) (.type "RuntimeError") = some false)
    (sv_HutsError_ValueError : PySem.W.subIn K (.ref C_HutsError) (.type "ValueError") = some true)
    (x1_BadNumber : PySem.W.findIn K (.ref C_BadNumber) "__getattribute__" = some (some (.builtin "BaseException.__getattribute__")))
    (x2_BadNumber : PySem.W.findIn K (.ref C_BadNumber) "__getattr__" = some none)
    (x4_BadNumber : PySem.W.hasDictIn K C_BadNumber = true)
    (ha_BadNumber : PySem.W.findIn K (.ref C_BadNumber) "__class__" = some (some (.builtin "object.__class__")))
    (hm_BadNumber : PySem.W.mroIn K C_BadNumber (.type "object") = some true)
    (n_BadNumber_index : PySem.W.findIn K (.ref C_BadNumber) "index" = some none)
    (n_BadNumber_limit : PySem.W.findIn K (.ref C_BadNumber) "limit" = some none)
    (n_BadNumber_line : PySem.W.findIn K (.ref C_BadNumber) "line" = some none)
    (n_BadNumber_names : PySem.W.findIn K (.ref C_BadNumber) "names" = some none)
    (n_BadNumber_reason : PySem.W.findIn K (.ref C_BadNumber) "reason" = some none)
    (sv_BadNumber_LookupError : PySem.W.subIn K (.ref C_BadNumber) (.type "LookupError") = some false)
    (sv_BadNumber_RuntimeError : PySem.W.subIn K (.ref C_BadNumber) (.type "RuntimeError") = some false)
    (sv_BadNumber_ValueError : PySem.W.subIn K (.ref C_BadNumber) (.type "ValueError") = some true)
    (x1_BadName : PySem.W.findIn K (.ref C_BadName) "__getattribute__" = some (some (.builtin "BaseException.__getattribute__")))
    (x2_BadName : PySem.W.findIn K (.ref C_BadName) "__getattr__" = some none)
    (x4_BadName : PySem.W.hasDictIn K C_BadName = true)
    (ha_BadName : PySem.W.findIn K (.ref C_BadName) "__class__" = some (some (.builtin "object.__class__")))
    (hm_BadName : PySem.W.mroIn K C_BadName (.type "object") = some true)
    (n_BadName_index : PySem.W.findIn K (.ref C_BadName) "index" = some none)
    (n_BadName_limit : PySem.W.findIn K (.ref C_BadName) "limit" = some none)
    (n_BadName_line : PySem.W.findIn K (.ref C_BadName) "line" = some none)
    (n_BadName_names : PySem.W.findIn K (.ref C_BadName) "names" = some none)
    (n_BadName_reason : PySem.W.findIn K (.ref C_BadName) "reason" = some none)
    (sv_BadName_LookupError : PySem.W.subIn K (.ref C_BadName) (.type "LookupError") = some false)
    (sv_BadName_RuntimeError : PySem.W.subIn K (.ref C_BadName) (.type "RuntimeError") = some false)
    (sv_BadName_ValueError : PySem.W.subIn K (.ref C_BadName) (.type "ValueError") = some true)
    (x1_BadItem : PySem.W.findIn K (.ref C_BadItem) "__getattribute__" = some (some (.builtin "BaseException.__getattribute__")))
    (x2_BadItem : PySem.W.findIn K (.ref C_BadItem) "__getattr__" = some none)
    (x4_BadItem : PySem.W.hasDictIn K C_BadItem = true)
    (ha_BadItem : PySem.W.findIn K (.ref C_BadItem) "__class__" = some (some (.builtin "object.__class__")))
    (hm_BadItem : PySem.W.mroIn K C_BadItem (.type "object") = some true)
    (n_BadItem_limit : PySem.W.findIn K (.ref C_BadItem) "limit" = some none)
    (n_BadItem_line : PySem.W.findIn K (.ref C_BadItem) "line" = some none)
    (n_BadItem_names : PySem.W.findIn K (.ref C_BadItem) "names" = some none)
    (n_BadItem_reason : PySem.W.findIn K (.ref C_BadItem) "reason" = some none)
    (n_BadItem_value : PySem.W.findIn K (.ref C_BadItem) "value" = some none)
    (sv_BadItem_LookupError : PySem.W.subIn K (.ref C_BadItem) (.type "LookupError") = some false)
    (sv_BadItem_RuntimeError : PySem.W.subIn K (.ref C_BadItem) (.type "RuntimeError") = some false)
    (sv_BadItem_ValueError : PySem.W.subIn K (.ref C_BadItem) (.type "ValueError") = some true)
    (x1_BadEvent : PySem.W.findIn K (.ref C_BadEvent) "__getattribute__" = some (some (.builtin "BaseException.__getattribute__")))
    (x2_BadEvent : PySem.W.findIn K (.ref C_BadEvent) "__getattr__" = some none)
    (x4_BadEvent : PySem.W.hasDictIn K C_BadEvent = true)
    (ha_BadEvent : PySem.W.findIn K (.ref C_BadEvent) "__class__" = some (some (.builtin "object.__class__")))
    (hm_BadEvent : PySem.W.mroIn K C_BadEvent (.type "object") = some true)
    (n_BadEvent_index : PySem.W.findIn K (.ref C_BadEvent) "index" = some none)
    (n_BadEvent_limit : PySem.W.findIn K (.ref C_BadEvent) "limit" = some none)
    (n_BadEvent_line : PySem.W.findIn K (.ref C_BadEvent) "line" = some none)
    (n_BadEvent_names : PySem.W.findIn K (.ref C_BadEvent) "names" = some none)
    (n_BadEvent_reason : PySem.W.findIn K (.ref C_BadEvent) "reason" = some none)
    (sv_BadEvent_LookupError : PySem.W.subIn K (.ref C_BadEvent) (.type "LookupError") = some false)
    (sv_BadEvent_RuntimeError : PySem.W.subIn K (.ref C_BadEvent) (.type "RuntimeError") = some false)
    (sv_BadEvent_ValueError : PySem.W.subIn K (.ref C_BadEvent) (.type "ValueError") = some true)
    (x1_BadNote : PySem.W.findIn K (.ref C_BadNote) "__getattribute__" = some (some (.builtin "BaseException.__getattribute__")))
    (x2_BadNote : PySem.W.findIn K (.ref C_BadNote) "__getattr__" = some none)
    (x4_BadNote : PySem.W.hasDictIn K C_BadNote = true)
    (ha_BadNote : PySem.W.findIn K (.ref C_BadNote) "__class__" = some (some (.builtin "object.__class__")))
    (hm_BadNote : PySem.W.mroIn K C_BadNote (.type "object") = some true)
    (n_BadNote_index : PySem.W.findIn K (.ref C_BadNote) "index" = some none)
    (n_BadNote_limit : PySem.W.findIn K (.ref C_BadNote) "limit" = some none)
    (n_BadNote_names : PySem.W.findIn K (.ref C_BadNote) "names" = some none)
    (n_BadNote_reason : PySem.W.findIn K (.ref C_BadNote) "reason" = some none)
    (n_BadNote_value : PySem.W.findIn K (.ref C_BadNote) "value" = some none)
    (sv_BadNote_LookupError : PySem.W.subIn K (.ref C_BadNote) (.type "LookupError") = some false)
    (sv_BadNote_RuntimeError : PySem.W.subIn K (.ref C_BadNote) (.type "RuntimeError") = some false)
    (sv_BadNote_ValueError : PySem.W.subIn K (.ref C_BadNote) (.type "ValueError") = some true)
    (x1_TooMany : PySem.W.findIn K (.ref C_TooMany) "__getattribute__" = some (some (.builtin "BaseException.__getattribute__")))
    (x2_TooMany : PySem.W.findIn K (.ref C_TooMany) "__getattr__" = some none)
    (x4_TooMany : PySem.W.hasDictIn K C_TooMany = true)
    (ha_TooMany : PySem.W.findIn K (.ref C_TooMany) "__class__" = some (some (.builtin "object.__class__")))
    (hm_TooMany : PySem.W.mroIn K C_TooMany (.type "object") = some true)
    (n_TooMany_index : PySem.W.findIn K (.ref C_TooMany) "index" = some none)
    (n_TooMany_line : PySem.W.findIn K (.ref C_TooMany) "line" = some none)
    (n_TooMany_names : PySem.W.findIn K (.ref C_TooMany) "names" = some none)
    (n_TooMany_reason : PySem.W.findIn K (.ref C_TooMany) "reason" = some none)
    (n_TooMany_value : PySem.W.findIn K (.ref C_TooMany) "value" = some none)
    (sv_TooMany_LookupError : PySem.W.subIn K (.ref C_TooMany) (.type "LookupError") = some false)
    (sv_TooMany_RuntimeError : PySem.W.subIn K (.ref C_TooMany) (.type "RuntimeError") = some false)
    (sv_TooMany_ValueError : PySem.W.subIn K (.ref C_TooMany) (.type "ValueError") = some true)
    (x1_Unknown : PySem.W.findIn K (.ref C_Unknown) "__getattribute__" = some (some (.builtin "BaseException.__getattribute__")))
    (x2_Unknown : PySem.W.findIn K (.ref C_Unknown) "__getattr__" = some none)
    (x4_Unknown : PySem.W.hasDictIn K C_Unknown = true)
    (ha_Unknown : PySem.W.findIn K (.ref C_Unknown) "__class__" = some (some (.builtin "object.__class__")))
    (hm_Unknown : PySem.W.mroIn K C_Unknown (.type "object") = some true)
    (n_Unknown_index : PySem.W.findIn K (.ref C_Unknown) "index" = some none)
    (n_Unknown_limit : PySem.W.findIn K (.ref C_Unknown) "limit" = some none)
    (n_Unknown_line : PySem.W.findIn K (.ref C_Unknown) "line" = some none)
    (n_Unknown_names : PySem.W.findIn K (.ref C_Unknown) "names" = some none)
    (n_Unknown_reason : PySem.W.findIn K (.ref C_Unknown) "reason" = some none)
    (sv_Unknown_LookupError : PySem.W.subIn K (.ref C_Unknown) (.type "LookupError") = some false)
    (sv_Unknown_RuntimeError : PySem.W.subIn K (.ref C_Unknown) (.type "RuntimeError") = some false)
    (sv_Unknown_ValueError : PySem.W.subIn K (.ref C_Unknown) (.type "ValueError") = some true)
    (x1_Taken : PySem.W.findIn K (.ref C_Taken) "__getattribute__" = some (some (.builtin "BaseException.__getattribute__")))
    (x2_Taken : PySem.W.findIn K (.ref C_Taken) "__getattr__" = some none)
    (x4_Taken : PySem.W.hasDictIn K C_Taken = true)
    (ha_Taken : PySem.W.findIn K (.ref C_Taken) "__class__" = some (some (.builtin "object.__class__")))
    (hm_Taken : PySem.W.mroIn K C_Taken (.type "object") = some true)
    (n_Taken_index : PySem.W.findIn K (.ref C_Taken) "index" = some none)
    (n_Taken_limit : PySem.W.findIn K (.ref C_Taken) "limit" = some none)
    (n_Taken_line : PySem.W.findIn K (.ref C_Taken) "line" = some none)
    (n_Taken_names : PySem.W.findIn K (.ref C_Taken) "names" = some none)
    (n_Taken_reason : PySem.W.findIn K (.ref C_Taken) "reason" = some none)
    (sv_Taken_LookupError : PySem.W.subIn K (.ref C_Taken) (.type "LookupError") = some false)
    (sv_Taken_RuntimeError : PySem.W.subIn K (.ref C_Taken) (.type "RuntimeError") = some false)
    (sv_Taken_ValueError : PySem.W.subIn K (.ref C_Taken) (.type "ValueError") = some true)
    (x1_Refused : PySem.W.findIn K (.ref C_Refused) "__getattribute__" = some (some (.builtin "BaseException.__getattribute__")))
    (x2_Refused : PySem.W.findIn K (.ref C_Refused) "__getattr__" = some none)
    (x4_Refused : PySem.W.hasDictIn K C_Refused = true)
    (ha_Refused : PySem.W.findIn K (.ref C_Refused) "__class__" = some (some (.builtin "object.__class__")))
    (hm_Refused : PySem.W.mroIn K C_Refused (.type "object") = some true)
    (n_Refused_index : PySem.W.findIn K (.ref C_Refused) "index" = some none)
    (n_Refused_limit : PySem.W.findIn K (.ref C_Refused) "limit" = some none)
    (n_Refused_line : PySem.W.findIn K (.ref C_Refused) "line" = some none)
    (n_Refused_value : PySem.W.findIn K (.ref C_Refused) "value" = some none)
    (sv_Refused_LookupError : PySem.W.subIn K (.ref C_Refused) (.type "LookupError") = some false)
    (sv_Refused_RuntimeError : PySem.W.subIn K (.ref C_Refused) (.type "RuntimeError") = some false)
    (sv_Refused_ValueError : PySem.W.subIn K (.ref C_Refused) (.type "ValueError") = some true)
    (e_NothingToUndo : PySem.W.subIn K (.ref C_NothingToUndo) (.type "BaseException") = some true)
    (t_NothingToUndo : PySem.W.typeIn K (.ref C_NothingToUndo) = some (.type "type"))
    (x1_NothingToUndo : PySem.W.findIn K (.ref C_NothingToUndo) "__getattribute__" = some (some (.builtin "BaseException.__getattribute__")))
    (x2_NothingToUndo : PySem.W.findIn K (.ref C_NothingToUndo) "__getattr__" = some none)
    (x4_NothingToUndo : PySem.W.hasDictIn K C_NothingToUndo = true)
    (ha_NothingToUndo : PySem.W.findIn K (.ref C_NothingToUndo) "__class__" = some (some (.builtin "object.__class__")))
    (hm_NothingToUndo : PySem.W.mroIn K C_NothingToUndo (.type "object") = some true)
    (n_NothingToUndo_index : PySem.W.findIn K (.ref C_NothingToUndo) "index" = some none)
    (n_NothingToUndo_limit : PySem.W.findIn K (.ref C_NothingToUndo) "limit" = some none)
    (n_NothingToUndo_line : PySem.W.findIn K (.ref C_NothingToUndo) "line" = some none)
    (n_NothingToUndo_names : PySem.W.findIn K (.ref C_NothingToUndo) "names" = some none)
    (n_NothingToUndo_reason : PySem.W.findIn K (.ref C_NothingToUndo) "reason" = some none)
    (n_NothingToUndo_value : PySem.W.findIn K (.ref C_NothingToUndo) "value" = some none)
    (sv_NothingToUndo_LookupError : PySem.W.subIn K (.ref C_NothingToUndo) (.type "LookupError") = some false)
    (sv_NothingToUndo_RuntimeError : PySem.W.subIn K (.ref C_NothingToUndo) (.type "RuntimeError") = some false)
    (sv_NothingToUndo_ValueError : PySem.W.subIn K (.ref C_NothingToUndo) (.type "ValueError") = some true)
    (x0_NothingToUndo : PySem.W.excIn K C_NothingToUndo [.type "ValueError", .type "Exception", .type "BaseException", .type "object"] "ValueError.__new__" = true)
    (k_NothingToUndo : PySem.W.keepIn K (.ref C_NothingToUndo) = true)
    (h_HutsError_HutsError : PySem.W.subIn K (.ref C_HutsError) (.ref C_HutsError) = some true)
    (h_BadNumber_HutsError : PySem.W.subIn K (.ref C_BadNumber) (.ref C_HutsError) = some true)
    (h_BadName_HutsError : PySem.W.subIn K (.ref C_BadName) (.ref C_HutsError) = some true)
    (h_BadItem_HutsError : PySem.W.subIn K (.ref C_BadItem) (.ref C_HutsError) = some true)
    (h_BadEvent_HutsError : PySem.W.subIn K (.ref C_BadEvent) (.ref C_HutsError) = some true)
    (h_BadNote_HutsError : PySem.W.subIn K (.ref C_BadNote) (.ref C_HutsError) = some true)
    (h_TooMany_HutsError : PySem.W.subIn K (.ref C_TooMany) (.ref C_HutsError) = some true)
    (h_Unknown_HutsError : PySem.W.subIn K (.ref C_Unknown) (.ref C_HutsError) = some true)
    (h_Taken_HutsError : PySem.W.subIn K (.ref C_Taken) (.ref C_HutsError) = some true)
    (h_Refused_HutsError : PySem.W.subIn K (.ref C_Refused) (.ref C_HutsError) = some true)
    (h_NothingToUndo_HutsError : PySem.W.subIn K (.ref C_NothingToUndo) (.ref C_HutsError) = some true)
    (h_HutsError_BadNumber : PySem.W.subIn K (.ref C_HutsError) (.ref C_BadNumber) = some false)
    (h_BadNumber_BadNumber : PySem.W.subIn K (.ref C_BadNumber) (.ref C_BadNumber) = some true)
    (h_BadName_BadNumber : PySem.W.subIn K (.ref C_BadName) (.ref C_BadNumber) = some false)
    (h_BadItem_BadNumber : PySem.W.subIn K (.ref C_BadItem) (.ref C_BadNumber) = some false)
    (h_BadEvent_BadNumber : PySem.W.subIn K (.ref C_BadEvent) (.ref C_BadNumber) = some false)
    (h_BadNote_BadNumber : PySem.W.subIn K (.ref C_BadNote) (.ref C_BadNumber) = some false)
    (h_TooMany_BadNumber : PySem.W.subIn K (.ref C_TooMany) (.ref C_BadNumber) = some false)
    (h_Unknown_BadNumber : PySem.W.subIn K (.ref C_Unknown) (.ref C_BadNumber) = some false)
    (h_Taken_BadNumber : PySem.W.subIn K (.ref C_Taken) (.ref C_BadNumber) = some false)
    (h_Refused_BadNumber : PySem.W.subIn K (.ref C_Refused) (.ref C_BadNumber) = some false)
    (h_NothingToUndo_BadNumber : PySem.W.subIn K (.ref C_NothingToUndo) (.ref C_BadNumber) = some false)
    (h_HutsError_BadName : PySem.W.subIn K (.ref C_HutsError) (.ref C_BadName) = some false)
    (h_BadNumber_BadName : PySem.W.subIn K (.ref C_BadNumber) (.ref C_BadName) = some false)
    (h_BadName_BadName : PySem.W.subIn K (.ref C_BadName) (.ref C_BadName) = some true)
    (h_BadItem_BadName : PySem.W.subIn K (.ref C_BadItem) (.ref C_BadName) = some false)
    (h_BadEvent_BadName : PySem.W.subIn K (.ref C_BadEvent) (.ref C_BadName) = some false)
    (h_BadNote_BadName : PySem.W.subIn K (.ref C_BadNote) (.ref C_BadName) = some false)
    (h_TooMany_BadName : PySem.W.subIn K (.ref C_TooMany) (.ref C_BadName) = some false)
    (h_Unknown_BadName : PySem.W.subIn K (.ref C_Unknown) (.ref C_BadName) = some false)
    (h_Taken_BadName : PySem.W.subIn K (.ref C_Taken) (.ref C_BadName) = some false)
    (h_Refused_BadName : PySem.W.subIn K (.ref C_Refused) (.ref C_BadName) = some false)
    (h_NothingToUndo_BadName : PySem.W.subIn K (.ref C_NothingToUndo) (.ref C_BadName) = some false)
    (h_HutsError_BadItem : PySem.W.subIn K (.ref C_HutsError) (.ref C_BadItem) = some false)
    (h_BadNumber_BadItem : PySem.W.subIn K (.ref C_BadNumber) (.ref C_BadItem) = some false)
    (h_BadName_BadItem : PySem.W.subIn K (.ref C_BadName) (.ref C_BadItem) = some false)
    (h_BadItem_BadItem : PySem.W.subIn K (.ref C_BadItem) (.ref C_BadItem) = some true)
    (h_BadEvent_BadItem : PySem.W.subIn K (.ref C_BadEvent) (.ref C_BadItem) = some false)
    (h_BadNote_BadItem : PySem.W.subIn K (.ref C_BadNote) (.ref C_BadItem) = some false)
    (h_TooMany_BadItem : PySem.W.subIn K (.ref C_TooMany) (.ref C_BadItem) = some false)
    (h_Unknown_BadItem : PySem.W.subIn K (.ref C_Unknown) (.ref C_BadItem) = some false)
    (h_Taken_BadItem : PySem.W.subIn K (.ref C_Taken) (.ref C_BadItem) = some false)
    (h_Refused_BadItem : PySem.W.subIn K (.ref C_Refused) (.ref C_BadItem) = some false)
    (h_NothingToUndo_BadItem : PySem.W.subIn K (.ref C_NothingToUndo) (.ref C_BadItem) = some false)
    (h_HutsError_BadEvent : PySem.W.subIn K (.ref C_HutsError) (.ref C_BadEvent) = some false)
    (h_BadNumber_BadEvent : PySem.W.subIn K (.ref C_BadNumber) (.ref C_BadEvent) = some false)
    (h_BadName_BadEvent : PySem.W.subIn K (.ref C_BadName) (.ref C_BadEvent) = some false)
    (h_BadItem_BadEvent : PySem.W.subIn K (.ref C_BadItem) (.ref C_BadEvent) = some false)
    (h_BadEvent_BadEvent : PySem.W.subIn K (.ref C_BadEvent) (.ref C_BadEvent) = some true)
    (h_BadNote_BadEvent : PySem.W.subIn K (.ref C_BadNote) (.ref C_BadEvent) = some false)
    (h_TooMany_BadEvent : PySem.W.subIn K (.ref C_TooMany) (.ref C_BadEvent) = some false)
    (h_Unknown_BadEvent : PySem.W.subIn K (.ref C_Unknown) (.ref C_BadEvent) = some false)
    (h_Taken_BadEvent : PySem.W.subIn K (.ref C_Taken) (.ref C_BadEvent) = some false)
    (h_Refused_BadEvent : PySem.W.subIn K (.ref C_Refused) (.ref C_BadEvent) = some false)
    (h_NothingToUndo_BadEvent : PySem.W.subIn K (.ref C_NothingToUndo) (.ref C_BadEvent) = some false)
    (h_HutsError_BadNote : PySem.W.subIn K (.ref C_HutsError) (.ref C_BadNote) = some false)
    (h_BadNumber_BadNote : PySem.W.subIn K (.ref C_BadNumber) (.ref C_BadNote) = some false)
    (h_BadName_BadNote : PySem.W.subIn K (.ref C_BadName) (.ref C_BadNote) = some false)
    (h_BadItem_BadNote : PySem.W.subIn K (.ref C_BadItem) (.ref C_BadNote) = some false)
    (h_BadEvent_BadNote : PySem.W.subIn K (.ref C_BadEvent) (.ref C_BadNote) = some false)
    (h_BadNote_BadNote : PySem.W.subIn K (.ref C_BadNote) (.ref C_BadNote) = some true)
    (h_TooMany_BadNote : PySem.W.subIn K (.ref C_TooMany) (.ref C_BadNote) = some false)
    (h_Unknown_BadNote : PySem.W.subIn K (.ref C_Unknown) (.ref C_BadNote) = some false)
    (h_Taken_BadNote : PySem.W.subIn K (.ref C_Taken) (.ref C_BadNote) = some false)
    (h_Refused_BadNote : PySem.W.subIn K (.ref C_Refused) (.ref C_BadNote) = some false)
    (h_NothingToUndo_BadNote : PySem.W.subIn K (.ref C_NothingToUndo) (.ref C_BadNote) = some false)
    (h_HutsError_TooMany : PySem.W.subIn K (.ref C_HutsError) (.ref C_TooMany) = some false)
    (h_BadNumber_TooMany : PySem.W.subIn K (.ref C_BadNumber) (.ref C_TooMany) = some false)
    (h_BadName_TooMany : PySem.W.subIn K (.ref C_BadName) (.ref C_TooMany) = some false)
    (h_BadItem_TooMany : PySem.W.subIn K (.ref C_BadItem) (.ref C_TooMany) = some false)
    (h_BadEvent_TooMany : PySem.W.subIn K (.ref C_BadEvent) (.ref C_TooMany) = some false)
    (h_BadNote_TooMany : PySem.W.subIn K (.ref C_BadNote) (.ref C_TooMany) = some false)
    (h_TooMany_TooMany : PySem.W.subIn K (.ref C_TooMany) (.ref C_TooMany) = some true)
    (h_Unknown_TooMany : PySem.W.subIn K (.ref C_Unknown) (.ref C_TooMany) = some false)
    (h_Taken_TooMany : PySem.W.subIn K (.ref C_Taken) (.ref C_TooMany) = some false)
    (h_Refused_TooMany : PySem.W.subIn K (.ref C_Refused) (.ref C_TooMany) = some false)
    (h_NothingToUndo_TooMany : PySem.W.subIn K (.ref C_NothingToUndo) (.ref C_TooMany) = some false)
    (h_HutsError_Unknown : PySem.W.subIn K (.ref C_HutsError) (.ref C_Unknown) = some false)
    (h_BadNumber_Unknown : PySem.W.subIn K (.ref C_BadNumber) (.ref C_Unknown) = some false)
    (h_BadName_Unknown : PySem.W.subIn K (.ref C_BadName) (.ref C_Unknown) = some false)
    (h_BadItem_Unknown : PySem.W.subIn K (.ref C_BadItem) (.ref C_Unknown) = some false)
    (h_BadEvent_Unknown : PySem.W.subIn K (.ref C_BadEvent) (.ref C_Unknown) = some false)
    (h_BadNote_Unknown : PySem.W.subIn K (.ref C_BadNote) (.ref C_Unknown) = some false)
    (h_TooMany_Unknown : PySem.W.subIn K (.ref C_TooMany) (.ref C_Unknown) = some false)
    (h_Unknown_Unknown : PySem.W.subIn K (.ref C_Unknown) (.ref C_Unknown) = some true)
    (h_Taken_Unknown : PySem.W.subIn K (.ref C_Taken) (.ref C_Unknown) = some false)
    (h_Refused_Unknown : PySem.W.subIn K (.ref C_Refused) (.ref C_Unknown) = some false)
    (h_NothingToUndo_Unknown : PySem.W.subIn K (.ref C_NothingToUndo) (.ref C_Unknown) = some false)
    (h_HutsError_Taken : PySem.W.subIn K (.ref C_HutsError) (.ref C_Taken) = some false)
    (h_BadNumber_Taken : PySem.W.subIn K (.ref C_BadNumber) (.ref C_Taken) = some false)
    (h_BadName_Taken : PySem.W.subIn K (.ref C_BadName) (.ref C_Taken) = some false)
    (h_BadItem_Taken : PySem.W.subIn K (.ref C_BadItem) (.ref C_Taken) = some false)
    (h_BadEvent_Taken : PySem.W.subIn K (.ref C_BadEvent) (.ref C_Taken) = some false)
    (h_BadNote_Taken : PySem.W.subIn K (.ref C_BadNote) (.ref C_Taken) = some false)
    (h_TooMany_Taken : PySem.W.subIn K (.ref C_TooMany) (.ref C_Taken) = some false)
    (h_Unknown_Taken : PySem.W.subIn K (.ref C_Unknown) (.ref C_Taken) = some false)
    (h_Taken_Taken : PySem.W.subIn K (.ref C_Taken) (.ref C_Taken) = some true)
    (h_Refused_Taken : PySem.W.subIn K (.ref C_Refused) (.ref C_Taken) = some false)
    (h_NothingToUndo_Taken : PySem.W.subIn K (.ref C_NothingToUndo) (.ref C_Taken) = some false)
    (h_HutsError_Refused : PySem.W.subIn K (.ref C_HutsError) (.ref C_Refused) = some false)
    (h_BadNumber_Refused : PySem.W.subIn K (.ref C_BadNumber) (.ref C_Refused) = some false)
    (h_BadName_Refused : PySem.W.subIn K (.ref C_BadName) (.ref C_Refused) = some false)
    (h_BadItem_Refused : PySem.W.subIn K (.ref C_BadItem) (.ref C_Refused) = some false)
    (h_BadEvent_Refused : PySem.W.subIn K (.ref C_BadEvent) (.ref C_Refused) = some false)
    (h_BadNote_Refused : PySem.W.subIn K (.ref C_BadNote) (.ref C_Refused) = some false)
    (h_TooMany_Refused : PySem.W.subIn K (.ref C_TooMany) (.ref C_Refused) = some false)
    (h_Unknown_Refused : PySem.W.subIn K (.ref C_Unknown) (.ref C_Refused) = some false)
    (h_Taken_Refused : PySem.W.subIn K (.ref C_Taken) (.ref C_Refused) = some false)
    (h_Refused_Refused : PySem.W.subIn K (.ref C_Refused) (.ref C_Refused) = some true)
    (h_NothingToUndo_Refused : PySem.W.subIn K (.ref C_NothingToUndo) (.ref C_Refused) = some false)
    (h_HutsError_NothingToUndo : PySem.W.subIn K (.ref C_HutsError) (.ref C_NothingToUndo) = some false)
    (h_BadNumber_NothingToUndo : PySem.W.subIn K (.ref C_BadNumber) (.ref C_NothingToUndo) = some false)
    (h_BadName_NothingToUndo : PySem.W.subIn K (.ref C_BadName) (.ref C_NothingToUndo) = some false)
    (h_BadItem_NothingToUndo : PySem.W.subIn K (.ref C_BadItem) (.ref C_NothingToUndo) = some false)
    (h_BadEvent_NothingToUndo : PySem.W.subIn K (.ref C_BadEvent) (.ref C_NothingToUndo) = some false)
    (h_BadNote_NothingToUndo : PySem.W.subIn K (.ref C_BadNote) (.ref C_NothingToUndo) = some false)
    (h_TooMany_NothingToUndo : PySem.W.subIn K (.ref C_TooMany) (.ref C_NothingToUndo) = some false)
    (h_Unknown_NothingToUndo : PySem.W.subIn K (.ref C_Unknown) (.ref C_NothingToUndo) = some false)
    (h_Taken_NothingToUndo : PySem.W.subIn K (.ref C_Taken) (.ref C_NothingToUndo) = some false)
    (h_Refused_NothingToUndo : PySem.W.subIn K (.ref C_Refused) (.ref C_NothingToUndo) = some false)
    (h_NothingToUndo_NothingToUndo : PySem.W.subIn K (.ref C_NothingToUndo) (.ref C_NothingToUndo) = some true)
    (a__law_alike : PySem.W.nsIn K mainGlobals "_law_alike" = some (some (.ref f__law_alike)))
    (l__law_alike : K.lookup f__law_alike = some ⟨oc__law_alike, od__law_alike, .func (PySem.W.fnOf "_law_alike" "_law_alike" (defArgs (top 15)) (defBody (top 15)) (defScope (top 15)) .none kV__law_alike dc__law_alike pm__law_alike an__law_alike cd__law_alike ct__law_alike), sl__law_alike⟩)
    (c__law_alike : PySem.W.codeIn K cd__law_alike "_law_alike" = true)
    (k__law_alike : PySem.W.keepIn K (.ref f__law_alike) = true)
    (a__law_taken : PySem.W.nsIn K mainGlobals "_law_taken" = some (some (.ref f__law_taken)))
    (l__law_taken : K.lookup f__law_taken = some ⟨oc__law_taken, od__law_taken, .func (PySem.W.fnOf "_law_taken" "_law_taken" (defArgs (top 13)) (defBody (top 13)) (defScope (top 13)) .none kV__law_taken dc__law_taken pm__law_taken an__law_taken cd__law_taken ct__law_taken), sl__law_taken⟩)
    (c__law_taken : PySem.W.codeIn K cd__law_taken "_law_taken" = true)
    (k__law_taken : PySem.W.keepIn K (.ref f__law_taken) = true)
    (a__law_pick : PySem.W.nsIn K mainGlobals "_law_pick" = some (some (.ref f__law_pick)))
    (l__law_pick : K.lookup f__law_pick = some ⟨oc__law_pick, od__law_pick, .func (PySem.W.fnOf "_law_pick" "_law_pick" (defArgs (top 14)) (defBody (top 14)) (defScope (top 14)) .none kV__law_pick dc__law_pick pm__law_pick an__law_pick cd__law_pick ct__law_pick), sl__law_pick⟩)
    (c__law_pick : PySem.W.codeIn K cd__law_pick "_law_pick" = true)
    (k__law_pick : PySem.W.keepIn K (.ref f__law_pick) = true)
    (a__law_raised : PySem.W.nsIn K mainGlobals "_law_raised" = some (some (.ref f__law_raised)))
    (l__law_raised : K.lookup f__law_raised = some ⟨oc__law_raised, od__law_raised, .func (PySem.W.fnOf "_law_raised" "_law_raised" (defArgs (top 16)) (defBody (top 16)) (defScope (top 16)) .none kV__law_raised dc__law_raised pm__law_raised an__law_raised cd__law_raised ct__law_raised), sl__law_raised⟩)
    (c__law_raised : PySem.W.codeIn K cd__law_raised "_law_raised" = true)
    (k__law_raised : PySem.W.keepIn K (.ref f__law_raised) = true)
    (a_law : PySem.W.nsIn K mainGlobals "law" = some (some (.ref f_law)))
    (l_law : K.lookup f_law = some ⟨oc_law, od_law, .func (PySem.W.fnOf "law" "law" (defArgs (top 17)) (defBody (top 17)) (defScope (top 17)) .none kV_law dc_law pm_law an_law cd_law ct_law), sl_law⟩)
    (c_law : PySem.W.codeIn K cd_law "law" = true)
    (k_law : PySem.W.keepIn K (.ref f_law) = true) :
    ∃ fd : FuncData, (∀ (s : Shared) (v : Value), BindsTo s fd ⟨[v], []⟩ [("script", v)]) ∧ ∀ base : Heap, K.In base → base.Ns mainGlobals mg → FnG PySem.Challenge.pw_huttohut_k09_errors w K mg base 6 fa fd ["script"] (spLaw K) := by
  have e := hfa.symm.trans (PySem.W.mg_of X G a_law)
  cases e
  have T : Txt K mg (clsOf [C_HutsError, C_BadNumber, C_BadName, C_BadItem, C_BadEvent, C_BadNote, C_TooMany, C_Unknown, C_Taken, C_Refused, C_NothingToUndo]) (clsOf []) := ⟨PySem.W.mg_none_of X G z_LookupError,
    PySem.W.mg_none_of X G z_RuntimeError,
    PySem.W.mg_none_of X G z_ValueError,
    PySem.W.mg_none_of X G z_bool_,
    PySem.W.mg_none_of X G z_int_,
    PySem.W.mg_none_of X G z_isinstance,
    PySem.W.mg_none_of X G z_len,
    PySem.W.mg_none_of X G z_list,
    PySem.W.mg_none_of X G z_range,
    PySem.W.mg_none_of X G z_str_,
    PySem.W.mg_none_of X G z_tuple,
    PySem.W.mg_of X G a_HutsError,
    ⟨x1_HutsError, x2_HutsError, e_HutsError, x4_HutsError⟩,
    fun C hC => by
    have z : C = 0 ∨ C = 1 ∨ C = 2 ∨ C = 3 ∨ C = 4 ∨ C = 5 ∨ C = 6 ∨ C = 7 ∨ C = 8 ∨ C = 9 ∨ C = 10 := by omega
    rcases z with rfl | rfl | rfl | rfl | rfl | rfl | rfl | rfl | rfl | rfl | rfl
    · exact PySem.W.exm_ref e_HutsError x4_HutsError t_HutsError h_HutsError_HutsError
    · exact PySem.W.exm_ref e_HutsError x4_HutsError t_HutsError h_BadNumber_HutsError
    · exact PySem.W.exm_ref e_HutsError x4_HutsError t_HutsError h_BadName_HutsError
    · exact PySem.W.exm_ref e_HutsError x4_HutsError t_HutsError h_BadItem_HutsError
    · exact PySem.W.exm_ref e_HutsError x4_HutsError t_HutsError h_BadEvent_HutsError
    · exact PySem.W.exm_ref e_HutsError x4_HutsError t_HutsError h_BadNote_HutsError
    · exact PySem.W.exm_ref e_HutsError x4_HutsError t_HutsError h_TooMany_HutsError
    · exact PySem.W.exm_ref e_HutsError x4_HutsError t_HutsError h_Unknown_HutsError
    · exact PySem.W.exm_ref e_HutsError x4_HutsError t_HutsError h_Taken_HutsError
    · exact PySem.W.exm_ref e_HutsError x4_HutsError t_HutsError h_Refused_HutsError
    · exact PySem.W.exm_ref e_HutsError x4_HutsError t_HutsError h_NothingToUndo_HutsError,
    PySem.W.mg_of X G a_HutsError,
    PySem.W.mg_of X G a_BadNumber,
    PySem.W.mg_of X G a_BadName,
    PySem.W.mg_of X G a_BadItem,
    PySem.W.mg_of X G a_BadEvent,
    PySem.W.mg_of X G a_BadNote,
    PySem.W.mg_of X G a_TooMany,
    PySem.W.mg_of X G a_Unknown,
    PySem.W.mg_of X G a_Taken,
    PySem.W.mg_of X G a_Refused,
    PySem.W.mg_of X G a_NothingToUndo,
    fun C hC => by
    have z : C = 0 ∨ C = 1 ∨ C = 2 ∨ C = 3 ∨ C = 4 ∨ C = 5 ∨ C = 6 ∨ C = 7 ∨ C = 8 ∨ C = 9 ∨ C = 10 := by omega
    rcases z with rfl | rfl | rfl | rfl | rfl | rfl | rfl | rfl | rfl | rfl | rfl
    · exact ⟨x1_HutsError, x2_HutsError, e_HutsError, x4_HutsError⟩
    · exact ⟨x1_BadNumber, x2_BadNumber, e_BadNumber, x4_BadNumber⟩
    · exact ⟨x1_BadName, x2_BadName, e_BadName, x4_BadName⟩
    · exact ⟨x1_BadItem, x2_BadItem, e_BadItem, x4_BadItem⟩
    · exact ⟨x1_BadEvent, x2_BadEvent, e_BadEvent, x4_BadEvent⟩
    · exact ⟨x1_BadNote, x2_BadNote, e_BadNote, x4_BadNote⟩
    · exact ⟨x1_TooMany, x2_TooMany, e_TooMany, x4_TooMany⟩
    · exact ⟨x1_Unknown, x2_Unknown, e_Unknown, x4_Unknown⟩
    · exact ⟨x1_Taken, x2_Taken, e_Taken, x4_Taken⟩
    · exact ⟨x1_Refused, x2_Refused, e_Refused, x4_Refused⟩
    · exact ⟨x1_NothingToUndo, x2_NothingToUndo, e_NothingToUndo, x4_NothingToUndo⟩,
    fun C hC => by
    have z : C = 0 ∨ C = 1 ∨ C = 2 ∨ C = 3 ∨ C = 4 ∨ C = 5 ∨ C = 6 ∨ C = 7 ∨ C = 8 ∨ C = 9 ∨ C = 10 := by omega
    rcases z with rfl | rfl | rfl | rfl | rfl | rfl | rfl | rfl | rfl | rfl | rfl
    · exact ⟨x1_HutsError, x2_HutsError, e_HutsError, x4_HutsError, ha_HutsError, hnG, htG, hm_HutsError⟩
    · exact ⟨x1_BadNumber, x2_BadNumber, e_BadNumber, x4_BadNumber, ha_BadNumber, hnG, htG, hm_BadNumber⟩
    · exact ⟨x1_BadName, x2_BadName, e_BadName, x4_BadName, ha_BadName, hnG, htG, hm_BadName⟩
    · exact ⟨x1_BadItem, x2_BadItem, e_BadItem, x4_BadItem, ha_BadItem, hnG, htG, hm_BadItem⟩
    · exact ⟨x1_BadEvent, x2_BadEvent, e_BadEvent, x4_BadEvent, ha_BadEvent, hnG, htG, hm_BadEvent⟩
    · exact ⟨x1_BadNote, x2_BadNote, e_BadNote, x4_BadNote, ha_BadNote, hnG, htG, hm_BadNote⟩
    · exact ⟨x1_TooMany, x2_TooMany, e_TooMany, x4_TooMany, ha_TooMany, hnG, htG, hm_TooMany⟩
    · exact ⟨x1_Unknown, x2_Unknown, e_Unknown, x4_Unknown, ha_Unknown, hnG, htG, hm_Unknown⟩
    · exact ⟨x1_Taken, x2_Taken, e_Taken, x4_Taken, ha_Taken, hnG, htG, hm_Taken⟩
    · exact ⟨x1_Refused, x2_Refused, e_Refused, x4_Refused, ha_Refused, hnG, htG, hm_Refused⟩
    · exact ⟨x1_NothingToUndo, x2_NothingToUndo, e_NothingToUndo, x4_NothingToUndo, ha_NothingToUndo, hnG, htG, hm_NothingToUndo⟩,
    fun C hC => by
    have z : C = 0 ∨ C = 1 ∨ C = 2 ∨ C = 3 ∨ C = 4 ∨ C = 5 ∨ C = 6 ∨ C = 7 ∨ C = 8 ∨ C = 9 ∨ C = 10 := by omega
    rcases z with rfl | rfl | rfl | rfl | rfl | rfl | rfl | rfl | rfl | rfl | rfl
    · exact n_HutsError_index
    · exact n_BadNumber_index
    · exact n_BadName_index
    · exact n_BadItem_index
    · exact n_BadEvent_index
    · exact n_BadNote_index
    · exact n_TooMany_index
    · exact n_Unknown_index
    · exact n_Taken_index
    · exact n_Refused_index
    · exact n_NothingToUndo_index,
    fun C hC => by
    have z : C = 0 ∨ C = 1 ∨ C = 2 ∨ C = 3 ∨ C = 4 ∨ C = 5 ∨ C = 6 ∨ C = 7 ∨ C = 8 ∨ C = 9 ∨ C = 10 := by omega
    rcases z with rfl | rfl | rfl | rfl | rfl | rfl | rfl | rfl | rfl | rfl | rfl
    · exact n_HutsError_limit
    · exact n_BadNumber_limit
    · exact n_BadName_limit
    · exact n_BadItem_limit
    · exact n_BadEvent_limit
    · exact n_BadNote_limit
    · exact n_TooMany_limit
    · exact n_Unknown_limit
    · exact n_Taken_limit
    · exact n_Refused_limit
    · exact n_NothingToUndo_limit,
    fun C hC => by
    have z : C = 0 ∨ C = 1 ∨ C = 2 ∨ C = 3 ∨ C = 4 ∨ C = 5 ∨ C = 6 ∨ C = 7 ∨ C = 8 ∨ C = 9 ∨ C = 10 := by omega
    rcases z with rfl | rfl | rfl | rfl | rfl | rfl | rfl | rfl | rfl | rfl | rfl
    · exact n_HutsError_line
    · exact n_BadNumber_line
    · exact n_BadName_line
    · exact n_BadItem_line
    · exact n_BadEvent_line
    · exact n_BadNote_line
    · exact n_TooMany_line
    · exact n_Unknown_line
    · exact n_Taken_line
    · exact n_Refused_line
    · exact n_NothingToUndo_line,
    fun C hC => by
    have z : C = 0 ∨ C = 1 ∨ C = 2 ∨ C = 3 ∨ C = 4 ∨ C = 5 ∨ C = 6 ∨ C = 7 ∨ C = 8 ∨ C = 9 ∨ C = 10 := by omega
    rcases z with rfl | rfl | rfl | rfl | rfl | rfl | rfl | rfl | rfl | rfl | rfl
    · exact n_HutsError_names
    · exact n_BadNumber_names
    · exact n_BadName_names
    · exact n_BadItem_names
    · exact n_BadEvent_names
    · exact n_BadNote_names
    · exact n_TooMany_names
    · exact n_Unknown_names
    · exact n_Taken_names
    · exact n_Refused_names
    · exact n_NothingToUndo_names,
    fun C hC => by
    have z : C = 0 ∨ C = 1 ∨ C = 2 ∨ C = 3 ∨ C = 4 ∨ C = 5 ∨ C = 6 ∨ C = 7 ∨ C = 8 ∨ C = 9 ∨ C = 10 := by omega
    rcases z with rfl | rfl | rfl | rfl | rfl | rfl | rfl | rfl | rfl | rfl | rfl
    · exact n_HutsError_reason
    · exact n_BadNumber_reason
    · exact n_BadName_reason
    · exact n_BadItem_reason
    · exact n_BadEvent_reason
    · exact n_BadNote_reason
    · exact n_TooMany_reason
    · exact n_Unknown_reason
    · exact n_Taken_reason
    · exact n_Refused_reason
    · exact n_NothingToUndo_reason,
    fun C hC => by
    have z : C = 0 ∨ C = 1 ∨ C = 2 ∨ C = 3 ∨ C = 4 ∨ C = 5 ∨ C = 6 ∨ C = 7 ∨ C = 8 ∨ C = 9 ∨ C = 10 := by omega
    rcases z with rfl | rfl | rfl | rfl | rfl | rfl | rfl | rfl | rfl | rfl | rfl
    · exact n_HutsError_value
    · exact n_BadNumber_value
    · exact n_BadName_value
    · exact n_BadItem_value
    · exact n_BadEvent_value
    · exact n_BadNote_value
    · exact n_TooMany_value
    · exact n_Unknown_value
    · exact n_Taken_value
    · exact n_Refused_value
    · exact n_NothingToUndo_value,
    fun C hC => by
    have z : C = 0 ∨ C = 1 ∨ C = 2 ∨ C = 3 ∨ C = 4 ∨ C = 5 ∨ C = 6 ∨ C = 7 ∨ C = 8 ∨ C = 9 ∨ C = 10 := by omega
    rcases z with rfl | rfl | rfl | rfl | rfl | rfl | rfl | rfl | rfl | rfl | rfl
    · exact kit_ref h_HutsError_BadEvent h_BadEvent_BadEvent x4_BadEvent t_BadEvent
    · exact kit_ref h_BadNumber_BadEvent h_BadEvent_BadEvent x4_BadEvent t_BadEvent
    · exact kit_ref h_BadName_BadEvent h_BadEvent_BadEvent x4_BadEvent t_BadEvent
    · exact kit_ref h_BadItem_BadEvent h_BadEvent_BadEvent x4_BadEvent t_BadEvent
    · exact kit_ref h_BadEvent_BadEvent h_BadEvent_BadEvent x4_BadEvent t_BadEvent
    · exact kit_ref h_BadNote_BadEvent h_BadEvent_BadEvent x4_BadEvent t_BadEvent
    · exact kit_ref h_TooMany_BadEvent h_BadEvent_BadEvent x4_BadEvent t_BadEvent
    · exact kit_ref h_Unknown_BadEvent h_BadEvent_BadEvent x4_BadEvent t_BadEvent
    · exact kit_ref h_Taken_BadEvent h_BadEvent_BadEvent x4_BadEvent t_BadEvent
    · exact kit_ref h_Refused_BadEvent h_BadEvent_BadEvent x4_BadEvent t_BadEvent
    · exact kit_ref h_NothingToUndo_BadEvent h_BadEvent_BadEvent x4_BadEvent t_BadEvent,
    fun C hC => by
    have z : C = 0 ∨ C = 1 ∨ C = 2 ∨ C = 3 ∨ C = 4 ∨ C = 5 ∨ C = 6 ∨ C = 7 ∨ C = 8 ∨ C = 9 ∨ C = 10 := by omega
    rcases z with rfl | rfl | rfl | rfl | rfl | rfl | rfl | rfl | rfl | rfl | rfl
    · exact kit_ref h_HutsError_BadItem h_BadItem_BadItem x4_BadItem t_BadItem
    · exact kit_ref h_BadNumber_BadItem h_BadItem_BadItem x4_BadItem t_BadItem
    · exact kit_ref h_BadName_BadItem h_BadItem_BadItem x4_BadItem t_BadItem
    · exact kit_ref h_BadItem_BadItem h_BadItem_BadItem x4_BadItem t_BadItem
    · exact kit_ref h_BadEvent_BadItem h_BadItem_BadItem x4_BadItem t_BadItem
    · exact kit_ref h_BadNote_BadItem h_BadItem_BadItem x4_BadItem t_BadItem
    · exact kit_ref h_TooMany_BadItem h_BadItem_BadItem x4_BadItem t_BadItem
    · exact kit_ref h_Unknown_BadItem h_BadItem_BadItem x4_BadItem t_BadItem
    · exact kit_ref h_Taken_BadItem h_BadItem_BadItem x4_BadItem t_BadItem
    · exact kit_ref h_Refused_BadItem h_BadItem_BadItem x4_BadItem t_BadItem
    · exact kit_ref h_NothingToUndo_BadItem h_BadItem_BadItem x4_BadItem t_BadItem,
    fun C hC => by
    have z : C = 0 ∨ C = 1 ∨ C = 2 ∨ C = 3 ∨ C = 4 ∨ C = 5 ∨ C = 6 ∨ C = 7 ∨ C = 8 ∨ C = 9 ∨ C = 10 := by omega
    rcases z with rfl | rfl | rfl | rfl | rfl | rfl | rfl | rfl | rfl | rfl | rfl
    · exact kit_ref h_HutsError_BadName h_BadName_BadName x4_BadName t_BadName
    · exact kit_ref h_BadNumber_BadName h_BadName_BadName x4_BadName t_BadName
    · exact kit_ref h_BadName_BadName h_BadName_BadName x4_BadName t_BadName
    · exact kit_ref h_BadItem_BadName h_BadName_BadName x4_BadName t_BadName
    · exact kit_ref h_BadEvent_BadName h_BadName_BadName x4_BadName t_BadName
    · exact kit_ref h_BadNote_BadName h_BadName_BadName x4_BadName t_BadName
    · exact kit_ref h_TooMany_BadName h_BadName_BadName x4_BadName t_BadName
    · exact kit_ref h_Unknown_BadName h_BadName_BadName x4_BadName t_BadName
    · exact kit_ref h_Taken_BadName h_BadName_BadName x4_BadName t_BadName
    · exact kit_ref h_Refused_BadName h_BadName_BadName x4_BadName t_BadName
    · exact kit_ref h_NothingToUndo_BadName h_BadName_BadName x4_BadName t_BadName,
    fun C hC => by
    have z : C = 0 ∨ C = 1 ∨ C = 2 ∨ C = 3 ∨ C = 4 ∨ C = 5 ∨ C = 6 ∨ C = 7 ∨ C = 8 ∨ C = 9 ∨ C = 10 := by omega
    rcases z with rfl | rfl | rfl | rfl | rfl | rfl | rfl | rfl | rfl | rfl | rfl
    · exact kit_ref h_HutsError_BadNote h_BadNote_BadNote x4_BadNote t_BadNote
    · exact kit_ref h_BadNumber_BadNote h_BadNote_BadNote x4_BadNote t_BadNote
    · exact kit_ref h_BadName_BadNote h_BadNote_BadNote x4_BadNote t_BadNote
    · exact kit_ref h_BadItem_BadNote h_BadNote_BadNote x4_BadNote t_BadNote
    · exact kit_ref h_BadEvent_BadNote h_BadNote_BadNote x4_BadNote t_BadNote
    · exact kit_ref h_BadNote_BadNote h_BadNote_BadNote x4_BadNote t_BadNote
    · exact kit_ref h_TooMany_BadNote h_BadNote_BadNote x4_BadNote t_BadNote
    · exact kit_ref h_Unknown_BadNote h_BadNote_BadNote x4_BadNote t_BadNote
    · exact kit_ref h_Taken_BadNote h_BadNote_BadNote x4_BadNote t_BadNote
    · exact kit_ref h_Refused_BadNote h_BadNote_BadNote x4_BadNote t_BadNote
    · exact kit_ref h_NothingToUndo_BadNote h_BadNote_BadNote x4_BadNote t_BadNote,
    fun C hC => by
    have z : C = 0 ∨ C = 1 ∨ C = 2 ∨ C = 3 ∨ C = 4 ∨ C = 5 ∨ C = 6 ∨ C = 7 ∨ C = 8 ∨ C = 9 ∨ C = 10 := by omega
    rcases z with rfl | rfl | rfl | rfl | rfl | rfl | rfl | rfl | rfl | rfl | rfl
    · exact kit_ref h_HutsError_BadNumber h_BadNumber_BadNumber x4_BadNumber t_BadNumber
    · exact kit_ref h_BadNumber_BadNumber h_BadNumber_BadNumber x4_BadNumber t_BadNumber
    · exact kit_ref h_BadName_BadNumber h_BadNumber_BadNumber x4_BadNumber t_BadNumber
    · exact kit_ref h_BadItem_BadNumber h_BadNumber_BadNumber x4_BadNumber t_BadNumber
    · exact kit_ref h_BadEvent_BadNumber h_BadNumber_BadNumber x4_BadNumber t_BadNumber
    · exact kit_ref h_BadNote_BadNumber h_BadNumber_BadNumber x4_BadNumber t_BadNumber
    · exact kit_ref h_TooMany_BadNumber h_BadNumber_BadNumber x4_BadNumber t_BadNumber
    · exact kit_ref h_Unknown_BadNumber h_BadNumber_BadNumber x4_BadNumber t_BadNumber
    · exact kit_ref h_Taken_BadNumber h_BadNumber_BadNumber x4_BadNumber t_BadNumber
    · exact kit_ref h_Refused_BadNumber h_BadNumber_BadNumber x4_BadNumber t_BadNumber
    · exact kit_ref h_NothingToUndo_BadNumber h_BadNumber_BadNumber x4_BadNumber t_BadNumber,
    fun C hC => by
    have z : C = 0 ∨ C = 1 ∨ C = 2 ∨ C = 3 ∨ C = 4 ∨ C = 5 ∨ C = 6 ∨ C = 7 ∨ C = 8 ∨ C = 9 ∨ C = 10 := by omega
    rcases z with rfl | rfl | rfl | rfl | rfl | rfl | rfl | rfl | rfl | rfl | rfl
    · exact kit_ref h_HutsError_NothingToUndo h_NothingToUndo_NothingToUndo x4_NothingToUndo t_NothingToUndo
    · exact kit_ref h_BadNumber_NothingToUndo h_NothingToUndo_NothingToUndo x4_NothingToUndo t_NothingToUndo
    · exact kit_ref h_BadName_NothingToUndo h_NothingToUndo_NothingToUndo x4_NothingToUndo t_NothingToUndo
    · exact kit_ref h_BadItem_NothingToUndo h_NothingToUndo_NothingToUndo x4_NothingToUndo t_NothingToUndo
    · exact kit_ref h_BadEvent_NothingToUndo h_NothingToUndo_NothingToUndo x4_NothingToUndo t_NothingToUndo
    · exact kit_ref h_BadNote_NothingToUndo h_NothingToUndo_NothingToUndo x4_NothingToUndo t_NothingToUndo
    · exact kit_ref h_TooMany_NothingToUndo h_NothingToUndo_NothingToUndo x4_NothingToUndo t_NothingToUndo
    · exact kit_ref h_Unknown_NothingToUndo h_NothingToUndo_NothingToUndo x4_NothingToUndo t_NothingToUndo
    · exact kit_ref h_Taken_NothingToUndo h_NothingToUndo_NothingToUndo x4_NothingToUndo t_NothingToUndo
    · exact kit_ref h_Refused_NothingToUndo h_NothingToUndo_NothingToUndo x4_NothingToUndo t_NothingToUndo
    · exact kit_ref h_NothingToUndo_NothingToUndo h_NothingToUndo_NothingToUndo x4_NothingToUndo t_NothingToUndo,
    fun C hC => by
    have z : C = 0 ∨ C = 1 ∨ C = 2 ∨ C = 3 ∨ C = 4 ∨ C = 5 ∨ C = 6 ∨ C = 7 ∨ C = 8 ∨ C = 9 ∨ C = 10 := by omega
    rcases z with rfl | rfl | rfl | rfl | rfl | rfl | rfl | rfl | rfl | rfl | rfl
    · exact kit_ref h_HutsError_Refused h_Refused_Refused x4_Refused t_Refused
    · exact kit_ref h_BadNumber_Refused h_Refused_Refused x4_Refused t_Refused
    · exact kit_ref h_BadName_Refused h_Refused_Refused x4_Refused t_Refused
    · exact kit_ref h_BadItem_Refused h_Refused_Refused x4_Refused t_Refused
    · exact kit_ref h_BadEvent_Refused h_Refused_Refused x4_Refused t_Refused
    · exact kit_ref h_BadNote_Refused h_Refused_Refused x4_Refused t_Refused
    · exact kit_ref h_TooMany_Refused h_Refused_Refused x4_Refused t_Refused
    · exact kit_ref h_Unknown_Refused h_Refused_Refused x4_Refused t_Refused
    · exact kit_ref h_Taken_Refused h_Refused_Refused x4_Refused t_Refused
    · exact kit_ref h_Refused_Refused h_Refused_Refused x4_Refused t_Refused
    · exact kit_ref h_NothingToUndo_Refused h_Refused_Refused x4_Refused t_Refused,
    fun C hC => by
    have z : C = 0 ∨ C = 1 ∨ C = 2 ∨ C = 3 ∨ C = 4 ∨ C = 5 ∨ C = 6 ∨ C = 7 ∨ C = 8 ∨ C = 9 ∨ C = 10 := by omega
    rcases z with rfl | rfl | rfl | rfl | rfl | rfl | rfl | rfl | rfl | rfl | rfl
    · exact kit_ref h_HutsError_Taken h_Taken_Taken x4_Taken t_Taken
    · exact kit_ref h_BadNumber_Taken h_Taken_Taken x4_Taken t_Taken
    · exact kit_ref h_BadName_Taken h_Taken_Taken x4_Taken t_Taken
    · exact kit_ref h_BadItem_Taken h_Taken_Taken x4_Taken t_Taken
    · exact kit_ref h_BadEvent_Taken h_Taken_Taken x4_Taken t_Taken
    · exact kit_ref h_BadNote_Taken h_Taken_Taken x4_Taken t_Taken
    · exact kit_ref h_TooMany_Taken h_Taken_Taken x4_Taken t_Taken
    · exact kit_ref h_Unknown_Taken h_Taken_Taken x4_Taken t_Taken
    · exact kit_ref h_Taken_Taken h_Taken_Taken x4_Taken t_Taken
    · exact kit_ref h_Refused_Taken h_Taken_Taken x4_Taken t_Taken
    · exact kit_ref h_NothingToUndo_Taken h_Taken_Taken x4_Taken t_Taken,
    fun C hC => by
    have z : C = 0 ∨ C = 1 ∨ C = 2 ∨ C = 3 ∨ C = 4 ∨ C = 5 ∨ C = 6 ∨ C = 7 ∨ C = 8 ∨ C = 9 ∨ C = 10 := by omega
    rcases z with rfl | rfl | rfl | rfl | rfl | rfl | rfl | rfl | rfl | rfl | rfl
    · exact kit_ref h_HutsError_TooMany h_TooMany_TooMany x4_TooMany t_TooMany
    · exact kit_ref h_BadNumber_TooMany h_TooMany_TooMany x4_TooMany t_TooMany
    · exact kit_ref h_BadName_TooMany h_TooMany_TooMany x4_TooMany t_TooMany
    · exact kit_ref h_BadItem_TooMany h_TooMany_TooMany x4_TooMany t_TooMany
    · exact kit_ref h_BadEvent_TooMany h_TooMany_TooMany x4_TooMany t_TooMany
    · exact kit_ref h_BadNote_TooMany h_TooMany_TooMany x4_TooMany t_TooMany
    · exact kit_ref h_TooMany_TooMany h_TooMany_TooMany x4_TooMany t_TooMany
    · exact kit_ref h_Unknown_TooMany h_TooMany_TooMany x4_TooMany t_TooMany
    · exact kit_ref h_Taken_TooMany h_TooMany_TooMany x4_TooMany t_TooMany
    · exact kit_ref h_Refused_TooMany h_TooMany_TooMany x4_TooMany t_TooMany
    · exact kit_ref h_NothingToUndo_TooMany h_TooMany_TooMany x4_TooMany t_TooMany,
    fun C hC => by
    have z : C = 0 ∨ C = 1 ∨ C = 2 ∨ C = 3 ∨ C = 4 ∨ C = 5 ∨ C = 6 ∨ C = 7 ∨ C = 8 ∨ C = 9 ∨ C = 10 := by omega
    rcases z with rfl | rfl | rfl | rfl | rfl | rfl | rfl | rfl | rfl | rfl | rfl
    · exact kit_ref h_HutsError_Unknown h_Unknown_Unknown x4_Unknown t_Unknown
    · exact kit_ref h_BadNumber_Unknown h_Unknown_Unknown x4_Unknown t_Unknown
    · exact kit_ref h_BadName_Unknown h_Unknown_Unknown x4_Unknown t_Unknown
    · exact kit_ref h_BadItem_Unknown h_Unknown_Unknown x4_Unknown t_Unknown
    · exact kit_ref h_BadEvent_Unknown h_Unknown_Unknown x4_Unknown t_Unknown
    · exact kit_ref h_BadNote_Unknown h_Unknown_Unknown x4_Unknown t_Unknown
    · exact kit_ref h_TooMany_Unknown h_Unknown_Unknown x4_Unknown t_Unknown
    · exact kit_ref h_Unknown_Unknown h_Unknown_Unknown x4_Unknown t_Unknown
    · exact kit_ref h_Taken_Unknown h_Unknown_Unknown x4_Unknown t_Unknown
    · exact kit_ref h_Refused_Unknown h_Unknown_Unknown x4_Unknown t_Unknown
    · exact kit_ref h_NothingToUndo_Unknown h_Unknown_Unknown x4_Unknown t_Unknown,
    fun C hC => by
    have z : C = 0 ∨ C = 1 ∨ C = 2 ∨ C = 3 ∨ C = 4 ∨ C = 5 ∨ C = 6 ∨ C = 7 ∨ C = 8 ∨ C = 9 ∨ C = 10 := by omega
    rcases z with rfl | rfl | rfl | rfl | rfl | rfl | rfl | rfl | rfl | rfl | rfl
    · exact kit_bt (by decide +kernel) sv_HutsError_LookupError
    · exact kit_bt (by decide +kernel) sv_BadNumber_LookupError
    · exact kit_bt (by decide +kernel) sv_BadName_LookupError
    · exact kit_bt (by decide +kernel) sv_BadItem_LookupError
    · exact kit_bt (by decide +kernel) sv_BadEvent_LookupError
    · exact kit_bt (by decide +kernel) sv_BadNote_LookupError
    · exact kit_bt (by decide +kernel) sv_TooMany_LookupError
    · exact kit_bt (by decide +kernel) sv_Unknown_LookupError
    · exact kit_bt (by decide +kernel) sv_Taken_LookupError
    · exact kit_bt (by decide +kernel) sv_Refused_LookupError
    · exact kit_bt (by decide +kernel) sv_NothingToUndo_LookupError,
    fun C hC => by
    have z : C = 0 ∨ C = 1 ∨ C = 2 ∨ C = 3 ∨ C = 4 ∨ C = 5 ∨ C = 6 ∨ C = 7 ∨ C = 8 ∨ C = 9 ∨ C = 10 := by omega
    rcases z with rfl | rfl | rfl | rfl | rfl | rfl | rfl | rfl | rfl | rfl | rfl
    · exact kit_bt (by decide +kernel) sv_HutsError_RuntimeError
    · exact kit_bt (by decide +kernel) sv_BadNumber_RuntimeError
    · exact kit_bt (by decide +kernel) sv_BadName_RuntimeError
    · exact kit_bt (by decide +kernel) sv_BadItem_RuntimeError
    · exact kit_bt (by decide +kernel) sv_BadEvent_RuntimeError
    · exact kit_bt (by decide +kernel) sv_BadNote_RuntimeError
    · exact kit_bt (by decide +kernel) sv_TooMany_RuntimeError
    · exact kit_bt (by decide +kernel) sv_Unknown_RuntimeError
    · exact kit_bt (by decide +kernel) sv_Taken_RuntimeError
    · exact kit_bt (by decide +kernel) sv_Refused_RuntimeError
    · exact kit_bt (by decide +kernel) sv_NothingToUndo_RuntimeError,
    fun C hC => by
    have z : C = 0 ∨ C = 1 ∨ C = 2 ∨ C = 3 ∨ C = 4 ∨ C = 5 ∨ C = 6 ∨ C = 7 ∨ C = 8 ∨ C = 9 ∨ C = 10 := by omega
    rcases z with rfl | rfl | rfl | rfl | rfl | rfl | rfl | rfl | rfl | rfl | rfl
    · exact kit_bt (by decide +kernel) sv_HutsError_ValueError
    · exact kit_bt (by decide +kernel) sv_BadNumber_ValueError
    · exact kit_bt (by decide +kernel) sv_BadName_ValueError
    · exact kit_bt (by decide +kernel) sv_BadItem_ValueError
    · exact kit_bt (by decide +kernel) sv_BadEvent_ValueError
    · exact kit_bt (by decide +kernel) sv_BadNote_ValueError
    · exact kit_bt (by decide +kernel) sv_TooMany_ValueError
    · exact kit_bt (by decide +kernel) sv_Unknown_ValueError
    · exact kit_bt (by decide +kernel) sv_Taken_ValueError
    · exact kit_bt (by decide +kernel) sv_Refused_ValueError
    · exact kit_bt (by decide +kernel) sv_NothingToUndo_ValueError,
    x0_NothingToUndo,
    k_NothingToUndo,
    e_NothingToUndo,
    t_NothingToUndo⟩
  have A__law_alike : At K mg "_law_alike" (top 15) ["found", "due"] := at_mk X G a__law_alike l__law_alike c__law_alike k__law_alike fun _ _ _ _ _ _ us hl => match us, hl with | [_, _], _ => rfl
  have A__law_taken : At K mg "_law_taken" (top 13) ["row", "many"] := at_mk X G a__law_taken l__law_taken c__law_taken k__law_taken fun _ _ _ _ _ _ us hl => match us, hl with | [_, _], _ => rfl
  have A__law_pick : At K mg "_law_pick" (top 14) ["row", "kinds"] := at_mk X G a__law_pick l__law_pick c__law_pick k__law_pick fun _ _ _ _ _ _ us hl => match us, hl with | [_, _], _ => rfl
  have A__law_raised : At K mg "_law_raised" (top 16) ["number", "value", "named"] := at_mk X G a__law_raised l__law_raised c__law_raised k__law_raised fun _ _ _ _ _ _ us hl => match us, hl with | [_, _, _], _ => rfl
  have F_law := fun_mk (st := top 17) l_law c_law k_law
  refine ⟨PySem.W.fnOf "law" "law" (defArgs (top 17)) (defBody (top 17)) (defScope (top 17)) .none kV_law dc_law pm_law an_law cd_law ct_law, fun s v => .of_eq rfl, fun base KB GB => law_by (c := cx K (clsOf [C_HutsError, C_BadNumber, C_BadName, C_BadItem, C_BadEvent, C_BadNote, C_TooMany, C_Unknown, C_Taken, C_Refused, C_NothingToUndo]) (clsOf [])) rfl ?_ hp⟩
  have I_BadNumber := init1_ok (CX := L2.CX PySem.Challenge.pw_huttohut_k09_errors w) (P := PySem.Challenge.pw_huttohut_k09_errors) (w := w) (mg := mg) (base := base) (k := 0) (C := C_BadNumber) (D := C_BadNumber) il_BadNumber ic_BadNumber (NdefX.nscope_by (by decide +kernel)) ⟨⟨_, _, _, _, _, _, co_BadNumber, cv_BadNumber, cf_BadNumber⟩, ⟨_, _, _, cc_BadNumber'⟩, ⟨_, cd_BadNumber'⟩, rfl, anyT⟩ (PySem.W.mg_none_of X G z_super) rfl rfl rfl (by decide) (by decide) rfl rfl (fun env => ⟨_, rfl⟩) ⟨⟨⟨_, _, _, _, _, _, _, _, _, _, _, _, _, _, _, l_BadNumber, v_BadNumber⟩, s_BadNumber, e_BadNumber, t_BadNumber, k_BadNumber⟩, m_BadNumber, sup_mk cd_BadNumber' lb_BadNumber mr_BadNumber fi_BadNumber, b_BadNumber⟩ n_BadNumber_value
  have E_BadNumber : ExK PySem.Challenge.pw_huttohut_k09_errors w K mg base (cx K (clsOf [C_HutsError, C_BadNumber, C_BadName, C_BadItem, C_BadEvent, C_BadNote, C_TooMany, C_Unknown, C_Taken, C_Refused, C_NothingToUndo]) (clsOf [])) 1 1 1 "BadNumber" ["self", "value"] := ⟨⟨⟨_, _, _, _, _, _, _, _, _, _, _, _, _, _, _, l_BadNumber, v_BadNumber⟩, s_BadNumber, e_BadNumber, t_BadNumber, k_BadNumber⟩, ⟨_, _, i_BadNumber, it_BadNumber, I_BadNumber, .all fun us hl => match us, hl with | [_, _], _ => rfl⟩, PySem.W.mg_of X G a_BadNumber⟩
  have I_BadName := init1_ok (CX := L2.CX PySem.Challenge.pw_huttohut_k09_errors w) (P := PySem.Challenge.pw_huttohut_k09_errors) (w := w) (mg := mg) (base := base) (k := 0) (C := C_BadName) (D := C_BadName) il_BadName ic_BadName (NdefX.nscope_by (by decide +kernel)) ⟨⟨_, _, _, _, _, _, co_BadName, cv_BadName, cf_BadName⟩, ⟨_, _, _, cc_BadName'⟩, ⟨_, cd_BadName'⟩, rfl, anyT⟩ (PySem.W.mg_none_of X G z_super) rfl rfl rfl (by decide) (by decide) rfl rfl (fun env => ⟨_, rfl⟩) ⟨⟨⟨_, _, _, _, _, _, _, _, _, _, _, _, _, _, _, l_BadName, v_BadName⟩, s_BadName, e_BadName, t_BadName, k_BadName⟩, m_BadName, sup_mk cd_BadName' lb_BadName mr_BadName fi_BadName, b_BadName⟩ n_BadName_value
  have E_BadName : ExK PySem.Challenge.pw_huttohut_k09_errors w K mg base (cx K (clsOf [C_HutsError, C_BadNumber, C_BadName, C_BadItem, C_BadEvent, C_BadNote, C_TooMany, C_Unknown, C_Taken, C_Refused, C_NothingToUndo]) (clsOf [])) 1 2 1 "BadName" ["self", "value"] := ⟨⟨⟨_, _, _, _, _, _, _, _, _, _, _, _, _, _, _, l_BadName, v_BadName⟩, s_BadName, e_BadName, t_BadName, k_BadName⟩, ⟨_, _, i_BadName, it_BadName, I_BadName, .all fun us hl => match us, hl with | [_, _], _ => rfl⟩, PySem.W.mg_of X G a_BadName⟩
  have I_BadItem := init1_ok (CX := L2.CX PySem.Challenge.pw_huttohut_k09_errors w) (P := PySem.Challenge.pw_huttohut_k09_errors) (w := w) (mg := mg) (base := base) (k := 0) (C := C_BadItem) (D := C_BadItem) il_BadItem ic_BadItem (NdefX.nscope_by (by decide +kernel)) ⟨⟨_, _, _, _, _, _, co_BadItem, cv_BadItem, cf_BadItem⟩, ⟨_, _, _, cc_BadItem'⟩, ⟨_, cd_BadItem'⟩, rfl, anyT⟩ (PySem.W.mg_none_of X G z_super) rfl rfl rfl (by decide) (by decide) rfl rfl (fun env => ⟨_, rfl⟩) ⟨⟨⟨_, _, _, _, _, _, _, _, _, _, _, _, _, _, _, l_BadItem, v_BadItem⟩, s_BadItem, e_BadItem, t_BadItem, k_BadItem⟩, m_BadItem, sup_mk cd_BadItem' lb_BadItem mr_BadItem fi_BadItem, b_BadItem⟩ n_BadItem_index
  have E_BadItem : ExK PySem.Challenge.pw_huttohut_k09_errors w K mg base (cx K (clsOf [C_HutsError, C_BadNumber, C_BadName, C_BadItem, C_BadEvent, C_BadNote, C_TooMany, C_Unknown, C_Taken, C_Refused, C_NothingToUndo]) (clsOf [])) 1 3 1 "BadItem" ["self", "index"] := ⟨⟨⟨_, _, _, _, _, _, _, _, _, _, _, _, _, _, _, l_BadItem, v_BadItem⟩, s_BadItem, e_BadItem, t_BadItem, k_BadItem⟩, ⟨_, _, i_BadItem, it_BadItem, I_BadItem, .all fun us hl => match us, hl with | [_, _], _ => rfl⟩, PySem.W.mg_of X G a_BadItem⟩
  have I_BadEvent := init1_ok (CX := L2.CX PySem.Challenge.pw_huttohut_k09_errors w) (P := PySem.Challenge.pw_huttohut_k09_errors) (w := w) (mg := mg) (base := base) (k := 0) (C := C_BadEvent) (D := C_BadEvent) il_BadEvent ic_BadEvent (NdefX.nscope_by (by decide +kernel)) ⟨⟨_, _, _, _, _, _, co_BadEvent, cv_BadEvent, cf_BadEvent⟩, ⟨_, _, _, cc_BadEvent'⟩, ⟨_, cd_BadEvent'⟩, rfl, anyT⟩ (PySem.W.mg_none_of X G z_super) rfl rfl rfl (by decide) (by decide) rfl rfl (fun env => ⟨_, rfl⟩) ⟨⟨⟨_, _, _, _, _, _, _, _, _, _, _, _, _, _, _, l_BadEvent, v_BadEvent⟩, s_BadEvent, e_BadEvent, t_BadEvent, k_BadEvent⟩, m_BadEvent, sup_mk cd_BadEvent' lb_BadEvent mr_BadEvent fi_BadEvent, b_BadEvent⟩ n_BadEvent_value
  have E_BadEvent : ExK PySem.Challenge.pw_huttohut_k09_errors w K mg base (cx K (clsOf [C_HutsError, C_BadNumber, C_BadName, C_BadItem, C_BadEvent, C_BadNote, C_TooMany, C_Unknown, C_Taken, C_Refused, C_NothingToUndo]) (clsOf [])) 1 4 1 "BadEvent" ["self", "value"] := ⟨⟨⟨_, _, _, _, _, _, _, _, _, _, _, _, _, _, _, l_BadEvent, v_BadEvent⟩, s_BadEvent, e_BadEvent, t_BadEvent, k_BadEvent⟩, ⟨_, _, i_BadEvent, it_BadEvent, I_BadEvent, .all fun us hl => match us, hl with | [_, _], _ => rfl⟩, PySem.W.mg_of X G a_BadEvent⟩
  have I_BadNote := init1_ok (CX := L2.CX PySem.Challenge.pw_huttohut_k09_errors w) (P := PySem.Challenge.pw_huttohut_k09_errors) (w := w) (mg := mg) (base := base) (k := 0) (C := C_BadNote) (D := C_BadNote) il_BadNote ic_BadNote (NdefX.nscope_by (by decide +kernel)) ⟨⟨_, _, _, _, _, _, co_BadNote, cv_BadNote, cf_BadNote⟩, ⟨_, _, _, cc_BadNote'⟩, ⟨_, cd_BadNote'⟩, rfl, anyT⟩ (PySem.W.mg_none_of X G z_super) rfl rfl rfl (by decide) (by decide) rfl rfl (fun env => ⟨_, rfl⟩) ⟨⟨⟨_, _, _, _, _, _, _, _, _, _, _, _, _, _, _, l_BadNote, v_BadNote⟩, s_BadNote, e_BadNote, t_BadNote, k_BadNote⟩, m_BadNote, sup_mk cd_BadNote' lb_BadNote mr_BadNote fi_BadNote, b_BadNote⟩ n_BadNote_line
  have E_BadNote : ExK PySem.Challenge.pw_huttohut_k09_errors w K mg base (cx K (clsOf [C_HutsError, C_BadNumber, C_BadName, C_BadItem, C_BadEvent, C_BadNote, C_TooMany, C_Unknown, C_Taken, C_Refused, C_NothingToUndo]) (clsOf [])) 1 5 1 "BadNote" ["self", "line"] := ⟨⟨⟨_, _, _, _, _, _, _, _, _, _, _, _, _, _, _, l_BadNote, v_BadNote⟩, s_BadNote, e_BadNote, t_BadNote, k_BadNote⟩, ⟨_, _, i_BadNote, it_BadNote, I_BadNote, .all fun us hl => match us, hl with | [_, _], _ => rfl⟩, PySem.W.mg_of X G a_BadNote⟩
  have I_TooMany := init1_ok (CX := L2.CX PySem.Challenge.pw_huttohut_k09_errors w) (P := PySem.Challenge.pw_huttohut_k09_errors) (w := w) (mg := mg) (base := base) (k := 0) (C := C_TooMany) (D := C_TooMany) il_TooMany ic_TooMany (NdefX.nscope_by (by decide +kernel)) ⟨⟨_, _, _, _, _, _, co_TooMany, cv_TooMany, cf_TooMany⟩, ⟨_, _, _, cc_TooMany'⟩, ⟨_, cd_TooMany'⟩, rfl, anyT⟩ (PySem.W.mg_none_of X G z_super) rfl rfl rfl (by decide) (by decide) rfl rfl (fun env => ⟨_, rfl⟩) ⟨⟨⟨_, _, _, _, _, _, _, _, _, _, _, _, _, _, _, l_TooMany, v_TooMany⟩, s_TooMany, e_TooMany, t_TooMany, k_TooMany⟩, m_TooMany, sup_mk cd_TooMany' lb_TooMany mr_TooMany fi_TooMany, b_TooMany⟩ n_TooMany_limit
  have E_TooMany : ExK PySem.Challenge.pw_huttohut_k09_errors w K mg base (cx K (clsOf [C_HutsError, C_BadNumber, C_BadName, C_BadItem, C_BadEvent, C_BadNote, C_TooMany, C_Unknown, C_Taken, C_Refused, C_NothingToUndo]) (clsOf [])) 1 6 1 "TooMany" ["self", "limit"] := ⟨⟨⟨_, _, _, _, _, _, _, _, _, _, _, _, _, _, _, l_TooMany, v_TooMany⟩, s_TooMany, e_TooMany, t_TooMany, k_TooMany⟩, ⟨_, _, i_TooMany, it_TooMany, I_TooMany, .all fun us hl => match us, hl with | [_, _], _ => rfl⟩, PySem.W.mg_of X G a_TooMany⟩
  have I_Unknown := init1_ok (CX := L2.CX PySem.Challenge.pw_huttohut_k09_errors w) (P := PySem.Challenge.pw_huttohut_k09_errors) (w := w) (mg := mg) (base := base) (k := 0) (C := C_Unknown) (D := C_Unknown) il_Unknown ic_Unknown (NdefX.nscope_by (by decide +kernel)) ⟨⟨_, _, _, _, _, _, co_Unknown, cv_Unknown, cf_Unknown⟩, ⟨_, _, _, cc_Unknown'⟩, ⟨_, cd_Unknown'⟩, rfl, anyT⟩ (PySem.W.mg_none_of X G z_super) rfl rfl rfl (by decide) (by decide) rfl rfl (fun env => ⟨_, rfl⟩) ⟨⟨⟨_, _, _, _, _, _, _, _, _, _, _, _, _, _, _, l_Unknown, v_Unknown⟩, s_Unknown, e_Unknown, t_Unknown, k_Unknown⟩, m_Unknown, sup_mk cd_Unknown' lb_Unknown mr_Unknown fi_Unknown, b_Unknown⟩ n_Unknown_value
  have E_Unknown : ExK PySem.Challenge.pw_huttohut_k09_errors w K mg base (cx K (clsOf [C_HutsError, C_BadNumber, C_BadName, C_BadItem, C_BadEvent, C_BadNote, C_TooMany, C_Unknown, C_Taken, C_Refused, C_NothingToUndo]) (clsOf [])) 1 7 1 "Unknown" ["self", "value"] := ⟨⟨⟨_, _, _, _, _, _, _, _, _, _, _, _, _, _, _, l_Unknown, v_Unknown⟩, s_Unknown, e_Unknown, t_Unknown, k_Unknown⟩, ⟨_, _, i_Unknown, it_Unknown, I_Unknown, .all fun us hl => match us, hl with | [_, _], _ => rfl⟩, PySem.W.mg_of X G a_Unknown⟩
  have I_Taken := init1_ok (CX := L2.CX PySem.Challenge.pw_huttohut_k09_errors w) (P := PySem.Challenge.pw_huttohut_k09_errors) (w := w) (mg := mg) (base := base) (k := 0) (C := C_Taken) (D := C_Taken) il_Taken ic_Taken (NdefX.nscope_by (by decide +kernel)) ⟨⟨_, _, _, _, _, _, co_Taken, cv_Taken, cf_Taken⟩, ⟨_, _, _, cc_Taken'⟩, ⟨_, cd_Taken'⟩, rfl, anyT⟩ (PySem.W.mg_none_of X G z_super) rfl rfl rfl (by decide) (by decide) rfl rfl (fun env => ⟨_, rfl⟩) ⟨⟨⟨_, _, _, _, _, _, _, _, _, _, _, _, _, _, _, l_Taken, v_Taken⟩, s_Taken, e_Taken, t_Taken, k_Taken⟩, m_Taken, sup_mk cd_Taken' lb_Taken mr_Taken fi_Taken, b_Taken⟩ n_Taken_value
  have E_Taken : ExK PySem.Challenge.pw_huttohut_k09_errors w K mg base (cx K (clsOf [C_HutsError, C_BadNumber, C_BadName, C_BadItem, C_BadEvent, C_BadNote, C_TooMany, C_Unknown, C_Taken, C_Refused, C_NothingToUndo]) (clsOf [])) 1 8 1 "Taken" ["self", "value"] := ⟨⟨⟨_, _, _, _, _, _, _, _, _, _, _, _, _, _, _, l_Taken, v_Taken⟩, s_Taken, e_Taken, t_Taken, k_Taken⟩, ⟨_, _, i_Taken, it_Taken, I_Taken, .all fun us hl => match us, hl with | [_, _], _ => rfl⟩, PySem.W.mg_of X G a_Taken⟩
  have I_Refused := init2_ok (CX := L2.CX PySem.Challenge.pw_huttohut_k09_errors w) (P := PySem.Challenge.pw_huttohut_k09_errors) (w := w) (mg := mg) (base := base) (k := 0) (C := C_Refused) (D := C_Refused) il_Refused ic_Refused (NdefX.nscope_by (by decide +kernel)) ⟨⟨_, _, _, _, _, _, co_Refused, cv_Refused, cf_Refused⟩, ⟨_, _, _, cc_Refused'⟩, ⟨_, cd_Refused'⟩, rfl, anyT⟩ (PySem.W.mg_none_of X G z_super) rfl rfl rfl (by decide) (by decide) rfl rfl (by decide) (by decide) rfl (fun env => ⟨_, rfl⟩) ⟨⟨⟨_, _, _, _, _, _, _, _, _, _, _, _, _, _, _, l_Refused, v_Refused⟩, s_Refused, e_Refused, t_Refused, k_Refused⟩, m_Refused, sup_mk cd_Refused' lb_Refused mr_Refused fi_Refused, b_Refused⟩ n_Refused_reason n_Refused_names
  have E_Refused : ExK PySem.Challenge.pw_huttohut_k09_errors w K mg base (cx K (clsOf [C_HutsError, C_BadNumber, C_BadName, C_BadItem, C_BadEvent, C_BadNote, C_TooMany, C_Unknown, C_Taken, C_Refused, C_NothingToUndo]) (clsOf [])) 1 9 2 "Refused" ["self", "reason", "names"] := ⟨⟨⟨_, _, _, _, _, _, _, _, _, _, _, _, _, _, _, l_Refused, v_Refused⟩, s_Refused, e_Refused, t_Refused, k_Refused⟩, ⟨_, _, i_Refused, it_Refused, I_Refused, .all fun us hl => match us, hl with | [_, _, _], _ => rfl⟩, PySem.W.mg_of X G a_Refused⟩
  have KXBadEvent_value : ExKK PySem.Challenge.pw_huttohut_k09_errors w K mg base (cx K (clsOf [C_HutsError, C_BadNumber, C_BadName, C_BadItem, C_BadEvent, C_BadNote, C_TooMany, C_Unknown, C_Taken, C_Refused, C_NothingToUndo]) (clsOf [])) 1 4 "BadEvent" ["self", "value"] ["value"] false := ⟨E_BadEvent.oex, ⟨_, _, i_BadEvent, it_BadEvent, I_BadEvent, ⟨fun s us ws X l1 l2 => BindsTo.of_looks fun M => .of_pure (match us, ws, l1, l2 with | [_], [_], _, _ => rfl), fun r1 r2 => vals_kw r1 r2⟩⟩, PySem.W.mg_of X G a_BadEvent⟩
  have KXBadItem_index : ExKK PySem.Challenge.pw_huttohut_k09_errors w K mg base (cx K (clsOf [C_HutsError, C_BadNumber, C_BadName, C_BadItem, C_BadEvent, C_BadNote, C_TooMany, C_Unknown, C_Taken, C_Refused, C_NothingToUndo]) (clsOf [])) 1 3 "BadItem" ["self", "index"] ["index"] false := ⟨E_BadItem.oex, ⟨_, _, i_BadItem, it_BadItem, I_BadItem, ⟨fun s us ws X l1 l2 => BindsTo.of_looks fun M => .of_pure (match us, ws, l1, l2 with | [_], [_], _, _ => rfl), fun r1 r2 => vals_kw r1 r2⟩⟩, PySem.W.mg_of X G a_BadItem⟩
  have KXBadName_value : ExKK PySem.Challenge.pw_huttohut_k09_errors w K mg base (cx K (clsOf [C_HutsError, C_BadNumber, C_BadName, C_BadItem, C_BadEvent, C_BadNote, C_TooMany, C_Unknown, C_Taken, C_Refused, C_NothingToUndo]) (clsOf [])) 1 2 "BadName" ["self", "value"] ["value"] false := ⟨E_BadName.oex, ⟨_, _, i_BadName, it_BadName, I_BadName, ⟨fun s us ws X l1 l2 => BindsTo.of_looks fun M => .of_pure (match us, ws, l1, l2 with | [_], [_], _, _ => rfl), fun r1 r2 => vals_kw r1 r2⟩⟩, PySem.W.mg_of X G a_BadName⟩
  have KXBadNote_line : ExKK PySem.Challenge.pw_huttohut_k09_errors w K mg base (cx K (clsOf [C_HutsError, C_BadNumber, C_BadName, C_BadItem, C_BadEvent, C_BadNote, C_TooMany, C_Unknown, C_Taken, C_Refused, C_NothingToUndo]) (clsOf [])) 1 5 "BadNote" ["self", "line"] ["line"] false := ⟨E_BadNote.oex, ⟨_, _, i_BadNote, it_BadNote, I_BadNote, ⟨fun s us ws X l1 l2 => BindsTo.of_looks fun M => .of_pure (match us, ws, l1, l2 with | [_], [_], _, _ => rfl), fun r1 r2 => vals_kw r1 r2⟩⟩, PySem.W.mg_of X G a_BadNote⟩
  have KXBadNumber_value : ExKK PySem.Challenge.pw_huttohut_k09_errors w K mg base (cx K (clsOf [C_HutsError, C_BadNumber, C_BadName, C_BadItem, C_BadEvent, C_BadNote, C_TooMany, C_Unknown, C_Taken, C_Refused, C_NothingToUndo]) (clsOf [])) 1 1 "BadNumber" ["self", "value"] ["value"] false := ⟨E_BadNumber.oex, ⟨_, _, i_BadNumber, it_BadNumber, I_BadNumber, ⟨fun s us ws X l1 l2 => BindsTo.of_looks fun M => .of_pure (match us, ws, l1, l2 with | [_], [_], _, _ => rfl), fun r1 r2 => vals_kw r1 r2⟩⟩, PySem.W.mg_of X G a_BadNumber⟩
  have KXRefused_names_reason : ExKK PySem.Challenge.pw_huttohut_k09_errors w K mg base (cx K (clsOf [C_HutsError, C_BadNumber, C_BadName, C_BadItem, C_BadEvent, C_BadNote, C_TooMany, C_Unknown, C_Taken, C_Refused, C_NothingToUndo]) (clsOf [])) 1 9 "Refused" ["self", "reason", "names"] ["names", "reason"] true := ⟨E_Refused.oex, ⟨_, _, i_Refused, it_Refused, I_Refused, ⟨fun s us ws X l1 l2 => BindsTo.of_looks fun M => .of_pure (match us, ws, l1, l2 with | [_], [_, _], _, _ => rfl), fun r1 r2 => vals_kw r1 r2⟩⟩, PySem.W.mg_of X G a_Refused⟩
  have KXRefused_reason_names : ExKK PySem.Challenge.pw_huttohut_k09_errors w K mg base (cx K (clsOf [C_HutsError, C_BadNumber, C_BadName, C_BadItem, C_BadEvent, C_BadNote, C_TooMany, C_Unknown, C_Taken, C_Refused, C_NothingToUndo]) (clsOf [])) 1 9 "Refused" ["self", "reason", "names"] ["reason", "names"] false := ⟨E_Refused.oex, ⟨_, _, i_Refused, it_Refused, I_Refused, ⟨fun s us ws X l1 l2 => BindsTo.of_looks fun M => .of_pure (match us, ws, l1, l2 with | [_], [_, _], _, _ => rfl), fun r1 r2 => vals_kw r1 r2⟩⟩, PySem.W.mg_of X G a_Refused⟩
  have KXTaken_value : ExKK PySem.Challenge.pw_huttohut_k09_errors w K mg base (cx K (clsOf [C_HutsError, C_BadNumber, C_BadName, C_BadItem, C_BadEvent, C_BadNote, C_TooMany, C_Unknown, C_Taken, C_Refused, C_NothingToUndo]) (clsOf [])) 1 8 "Taken" ["self", "value"] ["value"] false := ⟨E_Taken.oex, ⟨_, _, i_Taken, it_Taken, I_Taken, ⟨fun s us ws X l1 l2 => BindsTo.of_looks fun M => .of_pure (match us, ws, l1, l2 with | [_], [_], _, _ => rfl), fun r1 r2 => vals_kw r1 r2⟩⟩, PySem.W.mg_of X G a_Taken⟩
  have KXTooMany_limit : ExKK PySem.Challenge.pw_huttohut_k09_errors w K mg base (cx K (clsOf [C_HutsError, C_BadNumber, C_BadName, C_BadItem, C_BadEvent, C_BadNote, C_TooMany, C_Unknown, C_Taken, C_Refused, C_NothingToUndo]) (clsOf [])) 1 6 "TooMany" ["self", "limit"] ["limit"] false := ⟨E_TooMany.oex, ⟨_, _, i_TooMany, it_TooMany, I_TooMany, ⟨fun s us ws X l1 l2 => BindsTo.of_looks fun M => .of_pure (match us, ws, l1, l2 with | [_], [_], _, _ => rfl), fun r1 r2 => vals_kw r1 r2⟩⟩, PySem.W.mg_of X G a_TooMany⟩
  have KXUnknown_value : ExKK PySem.Challenge.pw_huttohut_k09_errors w K mg base (cx K (clsOf [C_HutsError, C_BadNumber, C_BadName, C_BadItem, C_BadEvent, C_BadNote, C_TooMany, C_Unknown, C_Taken, C_Refused, C_NothingToUndo]) (clsOf [])) 1 7 "Unknown" ["self", "value"] ["value"] false := ⟨E_Unknown.oex, ⟨_, _, i_Unknown, it_Unknown, I_Unknown, ⟨fun s us ws X l1 l2 => BindsTo.of_looks fun M => .of_pure (match us, ws, l1, l2 with | [_], [_], _, _ => rfl), fun r1 r2 => vals_kw r1 r2⟩⟩, PySem.W.mg_of X G a_Unknown⟩
  have O__law_alike := ok_law_alike (p := PySem.Challenge.pw_huttohut_k09_errors) (w := w) (base := base) T A__law_alike 5
  have O__law_taken := ok_law_taken (p := PySem.Challenge.pw_huttohut_k09_errors) (w := w) (base := base) T A__law_taken
  have O__law_pick := ok_law_pick (p := PySem.Challenge.pw_huttohut_k09_errors) (w := w) (base := base) T A__law_pick O__law_taken
  have O__law_raised := ok_law_raised (p := PySem.Challenge.pw_huttohut_k09_errors) (w := w) (base := base) T A__law_raised E_BadNumber E_BadName E_BadItem E_BadEvent E_BadNote E_TooMany E_Unknown E_Taken E_Refused
  exact oklaw T F_law O__law_taken O__law_pick O__law_raised O__law_alike KXBadEvent_value KXBadItem_index KXBadName_value KXBadNote_line KXBadNumber_value KXRefused_names_reason KXRefused_reason_names KXTaken_value KXTooMany_limit KXUnknown_value
theorem walk {l : PySem.W.OpenLaw} {q : Program} {loose : List Str} {XP : (Str → Option Value) → Heap → Prop} {YP : World → Heap → Prop} {d : DefRec} {K : Params → PySem.W.Frag} (hn : l.most = some 63) (hdf : d.params.defaults = []) (hl : l.prog = PySem.Challenge.pw_huttohut_k09_errors)
    (hY : ∀ (w : World) (h : Heap), YP w h → (K w.params).In h)
    (F : ∀ (w : World) (mg : Str → Option Value) (fa : Addr) (h : Heap), (K w.params).In h → h.Ns mainGlobals mg → mg d.name = some (.ref fa) →
      ∃ fd : FuncData, (∀ (s : Shared) (u : Value), BindsTo s fd ⟨[u], []⟩ [("script", u)]) ∧ ∀ base : Heap, (K w.params).In base → base.Ns mainGlobals mg → FnG PySem.Challenge.pw_huttohut_k09_errors w (K w.params) mg base 6 fa fd ["script"] (spLaw (K w.params))) :
    PySem.W.WalkO q loose XP YP l.row.toRowW d [] (fun f vs => PySem.call f vs) :=
  walk_ofG (n := 63) (k := 6) (x := "script") (sp := fun w => spLaw (K w.params)) hn (by decide) hdf ⟨rfl, by decide, by decide⟩ hY (by rw [hl]; exact F) (fun _ _ a ns hl _ hS => ⟨a, ns, rfl, hS, hl, fun _ => rfl⟩)
end PV

set_option maxHeartbeats 1000000
namespace PV
open PySem L2
/-! ### running in plain words: what each combinator does (shared by all laws) -/
section
variable {π : En} {i j : Nat} {p q : P} {o : O} {r : Rs} {rs : List Rs} {f g h : M Rs} {fa : M (List Rs)} {fl : M Fl} {s t : M Fl} {b : Bool} {ft gt : M Bool} {C : Nat} {ps qs : List P}
@[simp] theorem e_bok {α β : Type} {a : α} {k : α → M β} : (Out.ok a π).bind k = k a π := rfl
@[simp] theorem e_bexc {α β : Type} {k : α → M β} : (Out.exc C ps π : Out α).bind k = .exc C ps π := rfl
@[simp] theorem e_bbad {α β : Type} {k : α → M β} : (Out.bad : Out α).bind k = .bad := rfl
/-- slot i is no place to store at -/
def isL (π : En) (i : Nat) : Bool := match π[i]? with
  | none => true
  | some (.loan _) => true
  | some _ => false
def slLo : Sl → Bool
  | .loan _ => true
  | _ => false
@[simp] theorem slLo_no : slLo .no = false := rfl
@[simp] theorem slLo_val : slLo (.val p) = false := rfl
@[simp] theorem slLo_own : slLo (.own o) = false := rfl
@[simp] theorem slLo_loan : slLo (.loan o) = true := rfl
@[simp] theorem isL_0 {x : Sl} : isL (x :: π) 0 = slLo x := by cases x <;> rfl
@[simp] theorem isL_s {x : Sl} : isL (x :: π) (i + 1) = isL π i := rfl
theorem isL_set {x : Sl} : isL (π.set i x) j = if i = j then (if i < π.length then slLo x else true) else isL π j := by
  unfold isL
  rw [List.getElem?_set]
  by_cases e : i = j
  · subst e
    simp only [if_pos]
    by_cases k : i < π.length
    · simp only [if_pos k]; cases x <;> rfl
    · simp only [if_neg k]
  · simp only [if_neg e]
@[simp] theorem e_seq : seqF s t π = (s π).bind fun fl π1 => match fl with
  | .nx => t π1
  | fl => .ok fl π1 := rfl
@[simp] theorem e_skip : skipF π = .ok .nx π := rfl
@[simp] theorem e_if : ifF ft s t π = (ft π).bind fun b π1 => if b = true then s π1 else t π1 := rfl
@[simp] theorem e_drop : dropF f π = (f π).bind fun _ π1 => .ok .nx π1 := rfl
@[simp] theorem e_ret : retF f π = (f π).bind retR := rfl
@[simp] theorem e_retv : retR (.val p) π = .ok (.rt (.val p)) π := rfl
@[simp] theorem e_reto : retR (.own o) π = .ok (.rt (.own o)) π := rfl
@[simp] theorem e_retb : retR (.bor i) π = match π[i]? with
    | some (.own o) => .ok (.rt (.own o)) π
    | some (.val p) => .ok (.rt (.val p)) π
    | _ => .bad := rfl
@[simp] theorem e_retN : retNF π = .ok (.rt (.val .non)) π := rfl
@[simp] theorem e_set : setF i f π = (f π).bind (setR i) := rfl
@[simp] theorem e_setv : setR i (.val p) π = if isL π i = true then .bad else .ok .nx (π.set i (.val p)) := by
  unfold setR isL
  cases π[i]? with
  | none => rfl
  | some sl => cases sl <;> rfl
@[simp] theorem e_seto : setR i (.own o) π = if isL π i = true then .bad else .ok .nx (π.set i (.own o)) := by
  unfold setR isL
  cases π[i]? with
  | none => rfl
  | some sl => cases sl <;> rfl
@[simp] theorem e_par : parF i j f g π = (f π).bind fun r1 π1 => (g π1).bind fun r2 π2 => (setR i r1 π2).bind fun _ => setR j r2 := rfl
@[simp] theorem e_asg {tg : TgF} {fv : M P} : asgF tg fv π = (fv π).bind (asgR tg) := rfl
@[simp] theorem e_asgR {tg : TgF} : asgR tg p π = match tg p π with
  | some π' => .ok .nx π'
  | none => .bad := rfl
@[simp] theorem e_nameT : nameT i p π = if isL π i = true then none else some (π.set i (.val p)) := by
  unfold nameT isL
  cases π[i]? with
  | none => rfl
  | some sl => cases sl <;> rfl
@[simp] theorem e_tupT {u : List P → En → Option En} : tupT u (.tup ps) π = u ps π := rfl
@[simp] theorem e_nilT : nilT [] π = some π := rfl
@[simp] theorem e_consT {tg : TgF} {u : List P → En → Option En} : consT tg u (p :: ps) π = (tg p π).bind (u ps) := rfl
@[simp] theorem e_c : cF p π = .ok (.val p) π := rfl
@[simp] theorem e_var : varF i π = match π[i]? with
  | some (.val p) => .ok (.val p) π
  | some (.own _) => .ok (.bor i) π
  | some (.loan _) => .ok (.bor i) π
  | _ => .bad := rfl
@[simp] theorem e_val {fv : M P} : valF fv π = (fv π).bind fun p π' => .ok (.val p) π' := rfl
@[simp] theorem e_take : takeF f π = (f π).bind takeR := rfl
@[simp] theorem e_takev : takeR (.val p) π = .ok p π := rfl
@[simp] theorem e_takeo : takeR (.own o) π = .ok o.toP π := rfl
@[simp] theorem e_takeb : takeR (.bor i) π = match π[i]? with
    | some (.own o) => .ok o.toP (π.set i (.val o.toP))
    | some (.val p) => .ok p π
    | _ => .bad := rfl
@[simp] theorem toP_lst : (O.lst ps).toP = .lst ps := rfl
@[simp] theorem toP_obj : (O.obj C ps).toP = .obj C ps := rfl
@[simp] theorem toP_dct {t : Bool} : (O.dct t ps qs).toP = .dct t ps qs := rfl
@[simp] theorem e_bin {o : P → P → Option Rv} : binF o f g π = (f π).bind fun r1 π1 => (g π1).bind fun r2 => op2 o r1 r2 := rfl
@[simp] theorem e_op2 {o : P → P → Option Rv} {r1 r2 : Rs} : op2 o r1 r2 π = match rdP π r1, rdP π r2 with
  | some p1, some p2 => outR (o p1 p2) π
  | _, _ => .bad := rfl
@[simp] theorem e_un {o : P → Option Rv} : unF o f π = (f π).bind fun r1 => op1 o r1 := rfl
@[simp] theorem e_op1 {o : P → Option Rv} : op1 o r π = match rdP π r with
  | some p1 => outR (o p1) π
  | _ => .bad := rfl
@[simp] theorem e_opN {o : List P → Option Rv} : opN o rs π = match rds π rs with
  | some ps => outR (o ps) π
  | none => .bad := rfl
@[simp] theorem e_rds0 : rds π [] = some [] := rfl
@[simp] theorem e_rds1 : rds π (r :: rs) = match rdP π r, rds π rs with
    | some p, some ps => some (p :: ps)
    | _, _ => none := rfl
@[simp] theorem e_rdv : rdP π (.val p) = some p := rfl
@[simp] theorem e_rdo : rdP π (.own o) = some o.toP := rfl
@[simp] theorem e_rdb : rdP π (.bor i) = match π[i]? with
    | some (.own o) => some o.toP
    | some (.loan o) => some o.toP
    | some (.val p) => some p
    | _ => none := rfl
@[simp] theorem e_outv : outR (some (.val p)) π = .ok (.val p) π := rfl
@[simp] theorem e_outo : outR (some (.own o)) π = .ok (.own o) π := rfl
@[simp] theorem e_outn : outR none π = .bad := rfl
@[simp] theorem e_rsv : Rv.rs (.val p) = .val p := rfl
@[simp] theorem e_rso : Rv.rs (.own o) = .own o := rfl
@[simp] theorem e_cal {o : List P → Option Rv} : calF o fa π = (fa π).bind fun rs => opN o rs := rfl
@[simp] theorem e_nil : nilF π = .ok [] π := rfl
@[simp] theorem e_cons : consF f fa π = (f π).bind fun r π1 => (fa π1).bind fun rs π2 => .ok (r :: rs) π2 := rfl
@[simp] theorem e_tst : tstF f π = (f π).bind tstR := rfl
@[simp] theorem e_tstR : tstR (.val (.bl b)) π = .ok b π := rfl
@[simp] theorem e_and : andF ft gt π = (ft π).bind fun b π1 => if b = true then gt π1 else .ok false π1 := rfl
@[simp] theorem e_or : orF ft gt π = (ft π).bind fun b π1 => if b = true then .ok true π1 else gt π1 := rfl
@[simp] theorem e_not : notF ft π = (ft π).bind fun b π1 => .ok (!b) π1 := rfl
@[simp] theorem e_boolR {k : Bool → M Rs} : boolR k (.val (.bl b)) π = k b π := rfl
@[simp] theorem e_andV : andVF f g π = (f π).bind (boolR fun b π1 => if b = true then g π1 else .ok (.val (.bl false)) π1) := rfl
@[simp] theorem e_orV : orVF f g π = (f π).bind (boolR fun b π1 => if b = true then .ok (.val (.bl true)) π1 else g π1) := rfl
@[simp] theorem e_notV : notVF f π = (f π).bind (boolR fun b π1 => .ok (.val (.bl (!b))) π1) := rfl
@[simp] theorem e_ifE : ifEF ft f g π = (ft π).bind fun b π1 => if b = true then f π1 else g π1 := rfl
@[simp] theorem e_ch {o o' : P → P → Option Rv} : chF o o' f g h π = (f π).bind fun r1 π1 => (g π1).bind fun r2 π2 => (op2 o r1 r2 π2).bind (boolR fun b π3 => if b = true then (h π3).bind (fun r3 => op2 o' r2 r3) else .ok (.val (.bl false)) π3) := rfl
@[simp] theorem e_tup : tupF fa π = (fa π).bind tupR := rfl
@[simp] theorem e_tupR : tupR rs π = match vals rs with
  | some ps => if ps.length ≤ 1000000 then .ok (.val (.tup ps)) π else .bad
  | none => .bad := rfl
@[simp] theorem e_lst : lstF fa π = (fa π).bind lstR := rfl
@[simp] theorem e_lstR : lstR rs π = match vals rs with
  | some ps => if ps.length ≤ 1000000 then .ok (.own (.lst ps)) π else .bad
  | none => .bad := rfl
@[simp] theorem e_vals0 : vals [] = some [] := rfl
@[simp] theorem e_vals1 : vals (.val p :: rs) = (vals rs).map (p :: ·) := rfl
@[simp] theorem e_slF {g' h' : M (Option Int)} : slF f g' h' π = (f π).bind fun r π1 => (g' π1).bind fun lo π2 => (h' π2).bind fun hi => slR r lo hi := rfl
@[simp] theorem e_slR {lo hi : Option Int} : slR r lo hi π = match rdP π r with
  | some p => outR (slP p lo hi) π
  | none => .bad := rfl
@[simp] theorem e_noP : noP π = .ok none π := rfl
@[simp] theorem e_inP : inP f π = (f π).bind fun r π1 => match r with
  | .val (.int i) => .ok (some i) π1
  | _ => .bad := rfl
/-! calls -/
def toR (x : Out Rv) : M Rs := fun π => match x with
  | .ok r _ => .ok r.rs π
  | .exc C ps _ => .exc C ps π
  | .bad => .bad
@[simp] theorem toR_v {as : List Sl} : toR (.ok (.val p) as) π = .ok (.val p) π := rfl
@[simp] theorem toR_o {as : List Sl} : toR (.ok (.own o) as) π = .ok (.own o) π := rfl
@[simp] theorem toR_x {as : List Sl} : toR (.exc C ps as) π = .exc C ps π := rfl
theorem storeA_none {π : En} {rs : List Rs} {as : List Sl} (h : ∀ j, findL j rs as = none) : storeA π rs as = π := by
  apply List.ext_getElem?
  intro j
  rw [store_get, h j]
  cases π[j]? <;> rfl
theorem find_vals : ∀ (ps : List P) (as : List Sl) (j : Nat), findL j (ps.map Rs.val) as = none
  | [], as, j => by cases as <;> rfl
  | p :: ps, [], j => rfl
  | p :: ps, a :: as, j => by
    show findL j (ps.map Rs.val) as = none
    exact find_vals ps as j
theorem loads_vals : ∀ ps : List P, loads π (ps.map Rs.val) = some (ps.map Sl.val)
  | [] => rfl
  | p :: ps => by
    show (match loadR π (.val p), loads π (ps.map Rs.val) with | some s, some ss => some (s :: ss) | _, _ => none) = _
    rw [loads_vals ps]; rfl
theorem bor_vals : ∀ ps : List P, ((ps.map Rs.val).filterMap borIx) = []
  | [] => rfl
  | p :: ps => by
    rw [List.map_cons, List.filterMap_cons_none (by rfl)]
    exact bor_vals ps
theorem callR_vals {Fn : FN} (ps : List P) : callR Fn (ps.map Rs.val) π = toR (Fn (ps.map Sl.val)) π := by
  unfold callR toR
  rw [loads_vals, bor_vals]
  simp only [List.nodup_nil, if_true]
  cases Fn (ps.map Sl.val) with
  | ok r as => simp only [storeA_none (find_vals ps as)]
  | exc C qs as => simp only [storeA_none (find_vals ps as)]
  | bad => rfl
@[simp] theorem e_call {Fn : FN} : callF Fn fa π = (fa π).bind (callR Fn) := rfl
section
variable {Fn : FN} {a1 a2 a3 a4 a5 a6 : P}
@[simp] theorem callR_0 : callR Fn [] π = toR (Fn []) π := callR_vals []
@[simp] theorem callR_1 : callR Fn [.val a1] π = toR (Fn [.val a1]) π := callR_vals [a1]
@[simp] theorem callR_2 : callR Fn [.val a1, .val a2] π = toR (Fn [.val a1, .val a2]) π := callR_vals [a1, a2]
@[simp] theorem callR_3 : callR Fn [.val a1, .val a2, .val a3] π = toR (Fn [.val a1, .val a2, .val a3]) π := callR_vals [a1, a2, a3]
@[simp] theorem callR_4 : callR Fn [.val a1, .val a2, .val a3, .val a4] π = toR (Fn [.val a1, .val a2, .val a3, .val a4]) π := callR_vals [a1, a2, a3, a4]
@[simp] theorem callR_5 : callR Fn [.val a1, .val a2, .val a3, .val a4, .val a5] π = toR (Fn [.val a1, .val a2, .val a3, .val a4, .val a5]) π := callR_vals [a1, a2, a3, a4, a5]
@[simp] theorem callR_6 : callR Fn [.val a1, .val a2, .val a3, .val a4, .val a5, .val a6] π = toR (Fn [.val a1, .val a2, .val a3, .val a4, .val a5, .val a6]) π := callR_vals [a1, a2, a3, a4, a5, a6]
end
@[simp] theorem e_meth {C0 : Nat} {Fm : FN} : methF C0 Fm f fa π = (f π).bind fun r π1 => match rdP π1 r with
  | some (.obj C _) => if C = C0 then (fa π1).bind fun rs π2 => callR Fm (r :: rs) π2 else .bad
  | _ => .bad := rfl
@[simp] theorem e_mk {Fi : FN} : mkF C Fi fa π = (fa π).bind (mkR C Fi) := rfl
@[simp] theorem e_mkR {Fi : FN} : mkR C Fi rs π = match vals rs with
  | none => .bad
  | some ps => match Fi (.loan (.obj C []) :: ps.map .val) with
    | .ok (.val .non) (.loan (.obj C' vs) :: _) => if C' = C then .ok (.own (.obj C vs)) π else .bad
    | .exc C' qs _ => .exc C' qs π
    | _ => .bad := rfl
@[simp] theorem e_fn {n : Nat} {body : M Fl} {args : List Sl} : fnF n body args = match body (args ++ List.replicate n .no) with
  | .ok (.rt r) π' => .ok r (backA args π')
  | .ok .nx π' => .ok (.val .non) (backA args π')
  | .ok _ _ => .bad
  | .exc C ps π' => .exc C ps (backA args π')
  | .bad => .bad := rfl
@[simp] theorem back_v {a : P} {as : List Sl} : backA (.val a :: as) π = .val a :: backA as (π.drop 1) := by
  unfold backA
  rw [List.mapIdx_cons]
  congr 1
  apply List.mapIdx_eq_mapIdx_iff.mpr
  intro i hi
  cases as[i] <;> simp [List.getElem?_drop, Nat.add_comm]
@[simp] theorem back_n : backA [] π = [] := rfl
@[simp] theorem back_l {as : List Sl} : backA (.loan o :: as) π = (π[0]?).getD (.loan o) :: backA as (π.drop 1) := by
  unfold backA
  rw [List.mapIdx_cons]
  congr 1
  apply List.mapIdx_eq_mapIdx_iff.mpr
  intro i hi
  cases as[i] <;> simp [List.getElem?_drop, Nat.add_comm]
@[simp] theorem e_oe {C0 : Nat} {Fn : FN} {neg : Bool} {fp gp : M P} : oeF C0 Fn neg fp gp π = (fp π).bind fun p π1 => (gp π1).bind fun q => oeR C0 Fn neg p q := rfl
@[simp] theorem e_oeR {C0 : Nat} {Fn : FN} {neg : Bool} {vs : List P} : oeR C0 Fn neg (.obj C vs) q π = if C = C0 ∧ cmpOk C0 q = true then (match Fn [.val (.obj C vs), .val q] with
      | .ok (.val (.bl b)) _ => .ok (.val (.bl (if neg = true then !b else b))) π
      | _ => .bad) else .bad := rfl
@[simp] theorem e_fst {lay : Nat → List Str} {C0 : Nat} {x : Str} {fe : M P} : fstF lay i C0 x fe π = (fe π).bind (fstR lay i C0 x) := rfl
@[simp] theorem e_fstR {lay : Nat → List Str} {C0 : Nat} {x : Str} : fstR lay i C0 x p π = match getO C0 π i with
  | some vs => (match putV x p (lay C0) vs with
    | some ws => .ok .nx (putO C0 π i ws)
    | none => .bad)
  | none => .bad := rfl
@[simp] theorem e_getO {C0 : Nat} : getO C0 π i = (π[i]?).bind (slO C0) := rfl
@[simp] theorem e_slOo {C0 : Nat} : slO C0 (.own (.obj C ps)) = if C = C0 then some ps else none := rfl
@[simp] theorem e_slOl {C0 : Nat} : slO C0 (.loan (.obj C ps)) = if C = C0 then some ps else none := rfl
@[simp] theorem e_putO {C0 : Nat} : putO C0 π i ps = match π[i]? with
  | some sl => π.set i (sl.put (.obj C0 ps))
  | none => π := rfl
@[simp] theorem e_aug {k : Int → Int → Int} : augF i k f π = match π[i]? with
  | some (.val p) => (f π).bind (augR i k p)
  | _ => .bad := rfl
@[simp] theorem e_augR {k : Int → Int → Int} {a c : Int} : augR i k (.int a) (.val (.int c)) π = setR i (.val (.int (k a c))) π := rfl
@[simp] theorem e_par3 {l : Nat} : par3F i j l fa π = (fa π).bind (par3R i j l) := rfl
@[simp] theorem e_par3R {l : Nat} {r1 r2 r3 : Rs} : par3R i j l [r1, r2, r3] π = if (r1.isOwn && r2.isOwn || r1.isOwn && r3.isOwn || r2.isOwn && r3.isOwn) = false then (setR i r1 π).bind (fun _ π1 => (setR j r2 π1).bind fun _ π2 => setR l r3 π2) else .bad := rfl
@[simp] theorem isOwn_v : Rs.isOwn (.val p) = false := rfl
@[simp] theorem isOwn_o : Rs.isOwn (.own o) = true := rfl
@[simp] theorem e_nilV : nilV π = .ok [] π := rfl
@[simp] theorem e_consV {fp : M P} {gp : M (List P)} : consV fp gp π = (fp π).bind fun p π1 => (gp π1).bind fun ps π2 => .ok (p :: ps) π2 := rfl
theorem e_for {fi : M (List P)} {tg : TgF} {fb : M Fl} : forF fi tg fb π = (fi π).bind (loopF tg fb) := rfl
@[simp] theorem e_it {fp : M P} : itF fp π = (fp π).bind itR := rfl
@[simp] theorem e_itl : itR (.lst ps) π = .ok ps π := rfl
@[simp] theorem e_itt : itR (.tup ps) π = .ok ps π := rfl
@[simp] theorem e_enum {gp : M (List P)} : enumAF gp π = (gp π).bind enumAR := rfl
@[simp] theorem e_enuml : enumAR [.lst ps] π = .ok (enumP 0 ps) π := rfl
@[simp] theorem e_enumt : enumAR [.tup ps] π = .ok (enumP 0 ps) π := rfl
@[simp] theorem e_zip {gp : M (List P)} : zipF gp π = (gp π).bind zipR := rfl
@[simp] theorem e_zipt : zipR [.tup ps, .tup qs] π = if ps.length ≤ 1000000 then .ok (zipP ps qs) π else .bad := rfl
@[simp] theorem e_raise {n : Nat} : raiseF C n fa π = (fa π).bind (raiseR C n) := rfl
@[simp] theorem e_raiseR {n : Nat} : raiseR C n rs π = match vals rs with
  | some ps => if ps.length = n ∧ n ≤ 1000 then .exc C ps π else .bad
  | none => .bad := rfl
@[simp] theorem e_xf {k : Nat} : xfF ps k π = match ps[k]? with
  | some p => .ok (.val p) π
  | none => .bad := rfl
@[simp] theorem e_mut {op : List P → List P → Option (P × List P)} : mutF op i fa π = if (getL π i).isSome then (fa π).bind (mutR op i) else .bad := rfl
@[simp] theorem e_mutR {op : List P → List P → Option (P × List P)} : mutR op i rs π = match getL π i, vals rs with
  | some xs, some ps => (match op xs ps with
    | some (q, ys) => .ok (.val q) (putL π i ys)
    | none => .bad)
  | _, _ => .bad := rfl
@[simp] theorem e_getL : getL π i = (π[i]?).bind slL := rfl
@[simp] theorem slL_own : slL (.own (.lst ps)) = some ps := rfl
@[simp] theorem slL_loan : slL (.loan (.lst ps)) = some ps := rfl
@[simp] theorem e_putL : putL π i qs = match π[i]? with
  | some sl => π.set i (sl.put (.lst qs))
  | none => π := rfl
@[simp] theorem put_own {o' : O} : (Sl.own o).put o' = .own o' := rfl
@[simp] theorem put_loan {o' : O} : (Sl.loan o).put o' = .loan o' := rfl
@[simp] theorem e_st {fp : M P} : stF i fp f π = (fp π).bind fun p π1 => if (getL π1 i).isSome then (f π1).bind (stR i p) else .bad := rfl
@[simp] theorem e_stR {k : Int} : stR i p (.val (.int k)) π = match getL π i with
  | some xs => (match ixN xs.length k with
    | some j => .ok .nx (putL π i (xs.set j p))
    | none => .bad)
  | _ => .bad := by
  unfold stR
  cases getL π i <;> rfl
@[simp] theorem e_app {xs : List P} : appP xs [p] = if xs.length ≤ 1000000 then some (.non, xs ++ [p]) else none := rfl
@[simp] theorem e_rng1 : rng1F fa π = (fa π).bind rng1R := rfl
@[simp] theorem e_rng1R {k : Int} : rng1R [.val (.int k)] π = if -8000000 ≤ k ∧ k ≤ 8000000 then .ok (rngP 0 k) π else .bad := rfl
@[simp] theorem e_rng2 : rng2F fa π = (fa π).bind rng2R := rfl
@[simp] theorem e_rng2R {k l : Int} : rng2R [.val (.int k), .val (.int l)] π = if (-8000000 ≤ k ∧ k ≤ 8000000) ∧ -8000000 ≤ l ∧ l ≤ 8000000 then .ok (rngP k l) π else .bad := rfl
@[simp] theorem e_try {sb : Nat → Nat → Bool} {m : Nat} {fh : Nat → List P → M Fl} : tryF sb m i C fl fh π = match fl π with
  | .exc C' ps π1 => if C' < m then (if sb C' C = true then (if notL π1 i = true then hndR i (fh C' ps (π1.set i .no)) else .bad) else .exc C' ps π1) else .bad
  | o => o := rfl
@[simp] theorem e_tryM {sb : Nat → Nat → Bool} {m : Nat} {hs : List (Nat × Nat × (Nat → List P → M Fl))} : tryMF sb m fl hs π = match fl π with
  | .exc C' ps π1 => if C' < m then hndsR sb C' ps π1 hs else .bad
  | o => o := rfl
@[simp] theorem e_hnds0 {sb : Nat → Nat → Bool} {C' : Nat} : hndsR sb C' ps π [] = .exc C' ps π := rfl
@[simp] theorem e_hnds1 {sb : Nat → Nat → Bool} {C' : Nat} {fh : Nat → List P → M Fl} {r : List (Nat × Nat × (Nat → List P → M Fl))} : hndsR sb C' ps π ((i, C, fh) :: r) = if sb C' C = true then (if notL π i = true then hndR i (fh C' ps (π.set i .no)) else .bad) else hndsR sb C' ps π r := rfl
@[simp] theorem e_notL : notL π i = !isL π i := by
  unfold notL isL
  cases π[i]? with
  | none => rfl
  | some sl => cases sl <;> rfl
@[simp] theorem e_hndR {fl : Fl} : hndR i (.ok fl π) = if notL π i = true then .ok fl (π.set i .no) else .bad := rfl
end
end PV

set_option maxHeartbeats 1000000
namespace PV
open PySem L2
/-! ### numbers -/
def Sm (i : Int) : Prop := -(10 ^ 20) < i ∧ i < 10 ^ 20
theorem Sm.log {i : Int} (h : Sm i) : i.natAbs.log2 < 100 := by
  unfold Sm at h
  by_cases z : i.natAbs = 0
  · rw [z]; decide
  · exact (Nat.log2_lt z).mpr (by omega)
theorem mulP_sm {i j : Int} (hi : Sm i) (hj : Sm j) : mulP (.int i) (.int j) = some (.val (.int (i * j))) := by
  have h1 := hi.log
  have h2 := hj.log
  unfold mulP
  simp only [ii]
  rw [if_pos (by omega)]
theorem fdivP_sm {i j : Int} (hj : Sm j) (h0 : 0 < j) : fdivP (.int i) (.int j) = some (.val (.int (i / j))) := by
  have h2 := hj.log
  unfold fdivP
  simp only [ii]
  rw [if_pos ⟨h0, by omega⟩]
theorem modP_pos {i j : Int} (h0 : 0 < j) : modP (.int i) (.int j) = some (.val (.int (i % j))) := by
  unfold modP
  simp only [ii]
  rw [if_pos h0]
section
variable {i j : Int} {a b c d e f p q : P} {l ps qs : List P} {x y : Str} {u v : Bool}
@[simp] theorem addP_int : addP (.int i) (.int j) = some (.val (.int (i + j))) := rfl
@[simp] theorem subP_int : subP (.int i) (.int j) = some (.val (.int (i - j))) := rfl
@[simp] theorem negP_int : negP (.int i) = some (.val (.int (-i))) := rfl
@[simp] theorem ltP_int : ltP (.int i) (.int j) = some (.val (.bl (decide (i < j)))) := rfl
@[simp] theorem leP_int : leP (.int i) (.int j) = some (.val (.bl (decide (i ≤ j)))) := rfl
@[simp] theorem gtP_int : gtP (.int i) (.int j) = some (.val (.bl (decide (j < i)))) := rfl
@[simp] theorem geP_int : geP (.int i) (.int j) = some (.val (.bl (decide (j ≤ i)))) := rfl
@[simp] theorem intP_int : intP [.int i] = some (.val (.int i)) := rfl
@[simp] theorem intP_bl : intP [.bl u] = some (.val (.int (if u = true then 1 else 0))) := rfl
@[simp] theorem absP_int : absP [.int i] = some (.val (.int (if i < 0 then -i else i))) := rfl
@[simp] theorem max2_int : max2P [.int i, .int j] = some (.val (.int (max i j))) := by
  show some (Rv.val (P.int (if j > i then j else i))) = _
  congr 3
  split <;> omega
@[simp] theorem min2_int : min2P [.int i, .int j] = some (.val (.int (min i j))) := by
  show some (Rv.val (P.int (if j < i then j else i))) = _
  congr 3
  split <;> omega
@[simp] theorem lenP_tup : lenP [.tup l] = some (.val (.int l.length)) := rfl
@[simp] theorem lenP_lst : lenP [.lst l] = some (.val (.int l.length)) := rfl
@[simp] theorem lenP_scr {l : List Int} : lenP [.scr l] = some (.val (.int l.length)) := rfl
@[simp] theorem addP_tup : addP (.tup ps) (.tup qs) = if ps.length + qs.length ≤ 1000000 then some (.val (.tup (ps ++ qs))) else none := rfl
@[simp] theorem addP_lst : addP (.lst ps) (.lst qs) = if ps.length + qs.length ≤ 1000000 then some (.own (.lst (ps ++ qs))) else none := rfl
@[simp] theorem tupleP_l : tupleP [.lst ps] = some (.val (.tup ps)) := rfl
@[simp] theorem tupleP_t : tupleP [.tup ps] = some (.val (.tup ps)) := rfl
@[simp] theorem listP_l : listP [.lst ps] = some (.own (.lst ps)) := rfl
@[simp] theorem listP_t : listP [.tup ps] = some (.own (.lst ps)) := rfl
/-! indexing -/
theorem atI_nat {α : Type} {l : List α} {k : Nat} : atI l (k : Int) = l[k]? := by
  unfold atI ixN
  rw [if_pos (by omega)]
  by_cases h : k < l.length
  · rw [if_pos (by omega)]
    show l[(k : Int).toNat]? = _
    rw [Int.toNat_natCast]
  · rw [if_neg (by omega)]
    rw [List.getElem?_eq_none (by omega)]; rfl
theorem atI_pos {α : Type} {l : List α} {k : Int} (h : 0 ≤ k) : atI l k = l[k.toNat]? := by
  have := atI_nat (l := l) (k := k.toNat)
  rw [Int.toNat_of_nonneg h] at this
  exact this
theorem atI_m1 {α : Type} {l : List α} : atI l (-1) = l.getLast? := by
  unfold atI ixN
  rw [if_neg (by omega)]
  cases l with
  | nil => rfl
  | cons z l =>
    have h1 : -(((z :: l).length : Nat) : Int) ≤ -1 := by simp; omega
    rw [if_pos h1]
    show (z :: l)[(-1 + (((z :: l).length : Nat) : Int)).toNat]? = _
    rw [List.getLast?_eq_getElem?]
    congr 1
    simp
    omega
theorem ixT : ixP (.tup ps) (.int i) = (atI ps i).map .val := rfl
theorem ixL : ixP (.lst ps) (.int i) = (atI ps i).map .val := rfl
theorem ixS {ns : List Int} : ixP (.scr ns) (.int i) = (atI ns i).map fun n => .val (.int n) := rfl
@[simp] theorem at0 {α : Type} {a : α} {l : List α} : atI (a :: l) 0 = some a := by rw [show (0 : Int) = ((0 : Nat) : Int) from rfl, atI_nat]; rfl
@[simp] theorem at1 {α : Type} {a b : α} {l : List α} : atI (a :: b :: l) 1 = some b := by rw [show (1 : Int) = ((1 : Nat) : Int) from rfl, atI_nat]; rfl
@[simp] theorem at2 {α : Type} {a b c : α} {l : List α} : atI (a :: b :: c :: l) 2 = some c := by rw [show (2 : Int) = ((2 : Nat) : Int) from rfl, atI_nat]; rfl
@[simp] theorem at3 {α : Type} {a b c d : α} {l : List α} : atI (a :: b :: c :: d :: l) 3 = some d := by rw [show (3 : Int) = ((3 : Nat) : Int) from rfl, atI_nat]; rfl
@[simp] theorem at4 {α : Type} {a b c d e : α} {l : List α} : atI (a :: b :: c :: d :: e :: l) 4 = some e := by rw [show (4 : Int) = ((4 : Nat) : Int) from rfl, atI_nat]; rfl
@[simp] theorem at5 {α : Type} {a b c d e f : α} {l : List α} : atI (a :: b :: c :: d :: e :: f :: l) 5 = some f := by rw [show (5 : Int) = ((5 : Nat) : Int) from rfl, atI_nat]; rfl
/-! slices -/
@[simp] theorem slP_l {lo hi : Option Int} : slP (.lst ps) lo hi = some (.own (.lst (cutP ps lo hi))) := rfl
@[simp] theorem slP_t {lo hi : Option Int} : slP (.tup ps) lo hi = some (.val (.tup (cutP ps lo hi))) := rfl
theorem sIx_pos {n dd : Nat} {k : Int} (h : 0 ≤ k) : HT.sIx n dd (some k) = min k.toNat n := by
  unfold HT.sIx
  show (if k < 0 then _ else _) = _
  rw [if_neg (by omega)]
theorem cut_to {k : Int} (h : 0 ≤ k) : cutP ps none (some k) = ps.take k.toNat := by
  unfold cutP
  rw [sIx_pos h]
  show (ps.drop 0).take (min k.toNat ps.length - 0) = _
  rw [List.drop_zero, Nat.sub_zero]
  by_cases z : k.toNat ≤ ps.length
  · rw [Nat.min_eq_left z]
  · rw [Nat.min_eq_right (by omega), List.take_length, List.take_of_length_le (by omega)]
theorem cut_from {k : Int} (h : 0 ≤ k) : cutP ps (some k) none = ps.drop k.toNat := by
  unfold cutP
  rw [sIx_pos h]
  show (ps.drop (min k.toNat ps.length)).take (ps.length - min k.toNat ps.length) = _
  by_cases z : k.toNat ≤ ps.length
  · rw [Nat.min_eq_left z, List.take_of_length_le (by rw [List.length_drop]; exact Nat.le_refl _)]
  · rw [Nat.min_eq_right (by omega), List.drop_length, List.drop_of_length_le (by omega), List.take_nil]
theorem cut_mid {k m : Int} (h : 0 ≤ k) (h2 : k ≤ m) : cutP ps (some k) (some m) = (ps.take m.toNat).drop k.toNat := by
  unfold cutP
  rw [sIx_pos h, sIx_pos (by omega)]
  rw [List.drop_take]
  by_cases z : k.toNat ≤ ps.length
  · rw [Nat.min_eq_left z]
    by_cases y : m.toNat ≤ ps.length
    · rw [Nat.min_eq_left y]
    · rw [Nat.min_eq_right (by omega)]
      rw [List.take_of_length_le (by rw [List.length_drop]; omega), List.take_of_length_le (by rw [List.length_drop]; omega)]
  · rw [Nat.min_eq_right (show ps.length ≤ k.toNat by omega), List.drop_length, List.drop_of_length_le (by omega), List.take_nil, List.take_nil]
theorem cut_init : cutP ps none (some (-1)) = ps.dropLast := by
  unfold cutP HT.sIx
  show (ps.drop 0).take ((if (-1 : Int) < 0 then (-1 + (ps.length : Int)).toNat else _) - 0) = _
  rw [if_pos (by omega), List.drop_zero, List.dropLast_eq_take]
  congr 1
  omega
/-! data: equality -/
@[simp] theorem dat_int {n : Nat} : dat n (.int i) = true := by cases n <;> rfl
@[simp] theorem dat_bl {n : Nat} : dat n (.bl u) = true := by cases n <;> rfl
@[simp] theorem dat_non {n : Nat} : dat n .non = true := by cases n <;> rfl
@[simp] theorem dat_str {n : Nat} : dat n (.str x) = PyData.strOk x := by cases n <;> rfl
@[simp] theorem dat60t : dat 60 (.tup ps) = ps.all (dat 59) := rfl
@[simp] theorem dat59t : dat 59 (.tup ps) = ps.all (dat 58) := rfl
@[simp] theorem dat58t : dat 58 (.tup ps) = ps.all (dat 57) := rfl
@[simp] theorem dat57t : dat 57 (.tup ps) = ps.all (dat 56) := rfl
@[simp] theorem dat56t : dat 56 (.tup ps) = ps.all (dat 55) := rfl
@[simp] theorem dat60l : dat 60 (.lst ps) = ps.all (dat 59) := rfl
@[simp] theorem dat59l : dat 59 (.lst ps) = ps.all (dat 58) := rfl
@[simp] theorem dat58l : dat 58 (.lst ps) = ps.all (dat 57) := rfl
@[simp] theorem dat57l : dat 57 (.lst ps) = ps.all (dat 56) := rfl
@[simp] theorem dat56l : dat 56 (.lst ps) = ps.all (dat 55) := rfl
theorem eqP_d (hp : dat 60 p = true) (hq : dat 60 q = true) : eqP p q = some (.val (.bl (eqv p q))) := by
  unfold eqP
  rw [if_pos ⟨hp, hq⟩]
theorem neP_d (hp : dat 60 p = true) (hq : dat 60 q = true) : neP p q = some (.val (.bl (!eqv p q))) := by
  unfold neP
  rw [if_pos ⟨hp, hq⟩]
theorem beqd (i j : Int) : (i == j) = decide (i = j) := by by_cases h : i = j <;> simp [h]
def eqvs : List P → List P → Bool
  | [], [] => true
  | p :: ps, q :: qs => eqv p q && eqvs ps qs
  | [], _ :: _ => false
  | _ :: _, [] => false
theorem eqvs_d : ∀ ps qs : List P, PyData.eqvAll (toDs ps) (toDs qs) = eqvs ps qs
  | [], [] => rfl
  | p :: ps, q :: qs => by
    show (PyData.eqv (toD p) (toD q) && PyData.eqvAll (toDs ps) (toDs qs)) = (eqv p q && eqvs ps qs)
    rw [eqvs_d ps qs]; rfl
  | [], _ :: _ => rfl
  | _ :: _, [] => rfl
@[simp] theorem eqvs_nil : eqvs [] [] = true := rfl
@[simp] theorem eqvs_cons : eqvs (p :: ps) (q :: qs) = (eqv p q && eqvs ps qs) := rfl
@[simp] theorem eqvs_n1 : eqvs [] (q :: qs) = false := rfl
@[simp] theorem eqvs_n2 : eqvs (p :: ps) [] = false := rfl
@[simp] theorem eqv_int : eqv (.int i) (.int j) = decide (i = j) := beqd i j
@[simp] theorem eqv_bl : eqv (.bl u) (.bl v) = (u == v) := rfl
@[simp] theorem eqv_non : eqv .non .non = true := rfl
@[simp] theorem eqv_str : eqv (.str x) (.str y) = (x == y) := rfl
@[simp] theorem eqv_tup : eqv (.tup ps) (.tup qs) = eqvs ps qs := eqvs_d ps qs
@[simp] theorem eqv_lst : eqv (.lst ps) (.lst qs) = eqvs ps qs := eqvs_d ps qs
@[simp] theorem eqv_ni : eqv .non (.int i) = false := rfl
@[simp] theorem eqv_in : eqv (.int i) .non = false := rfl
@[simp] theorem eqv_nt : eqv .non (.tup ps) = false := rfl
@[simp] theorem eqv_tn : eqv (.tup ps) .non = false := rfl
@[simp] theorem eqv_nl : eqv .non (.lst ps) = false := rfl
@[simp] theorem eqv_ln : eqv (.lst ps) .non = false := rfl
@[simp] theorem eqv_ns : eqv .non (.str x) = false := rfl
@[simp] theorem eqv_sn : eqv (.str x) .non = false := rfl
@[simp] theorem eqv_si : eqv (.str x) (.int i) = false := rfl
@[simp] theorem eqv_is : eqv (.int i) (.str x) = false := rfl
@[simp] theorem eqv_tl : eqv (.tup ps) (.lst qs) = false := rfl
@[simp] theorem eqv_lt : eqv (.lst ps) (.tup qs) = false := rfl
@[simp] theorem eqv_it : eqv (.int i) (.tup ps) = false := rfl
@[simp] theorem eqv_ti : eqv (.tup ps) (.int i) = false := rfl
@[simp] theorem eqv_st : eqv (.str x) (.tup ps) = false := rfl
@[simp] theorem eqv_ts : eqv (.tup ps) (.str x) = false := rfl
@[simp] theorem eqv_nb : eqv .non (.bl u) = false := rfl
@[simp] theorem eqv_bn : eqv (.bl u) .non = false := rfl
mutual
theorem eqv_refl : ∀ p : P, eqv p p = true
  | .non => rfl
  | .bl b => by cases b <;> rfl
  | .int i => by simp
  | .str x => by rw [eqv_str]; exact beq_self_eq_true x
  | .tup ps => by rw [eqv_tup]; exact eqvs_refl ps
  | .lst ps => by rw [eqv_lst]; exact eqvs_refl ps
  | .dct _ _ _ => rfl
  | .obj _ _ => rfl
  | .fn _ => rfl
  | .scr _ => rfl
  | .ty _ => rfl
  | .cls _ => rfl
  | .nt _ => rfl
theorem eqvs_refl : ∀ ps : List P, eqvs ps ps = true
  | [] => rfl
  | p :: ps => by rw [eqvs_cons, eqv_refl p, eqvs_refl ps]; rfl
end
theorem eqvs_map {α : Type} [DecidableEq α] {g : α → P} (h : ∀ a b, eqv (g a) (g b) = decide (a = b)) : ∀ l m : List α, eqvs (l.map g) (m.map g) = decide (l = m)
  | [], [] => rfl
  | [], _ :: _ => rfl
  | _ :: _, [] => rfl
  | a :: l, b :: m => by
    rw [List.map_cons, List.map_cons, eqvs_cons, h, eqvs_map h l m]
    by_cases e : a = b <;> by_cases e2 : l = m <;> simp [e, e2]
theorem eqP_rf (hp : dat 60 p = true) : eqP p p = some (.val (.bl true)) := by rw [eqP_d hp hp, eqv_refl]
theorem neP_rf (hp : dat 60 p = true) : neP p p = some (.val (.bl false)) := by rw [neP_d hp hp, eqv_refl]; rfl
@[simp] theorem eqP_int : eqP (.int i) (.int j) = some (.val (.bl (decide (i = j)))) := by rw [eqP_d dat_int dat_int, eqv_int]
@[simp] theorem neP_int : neP (.int i) (.int j) = some (.val (.bl (!decide (i = j)))) := by rw [neP_d dat_int dat_int, eqv_int]
@[simp] theorem eqP_bl : eqP (.bl u) (.bl v) = some (.val (.bl (u == v))) := by rw [eqP_d dat_bl dat_bl, eqv_bl]
@[simp] theorem neP_bl : neP (.bl u) (.bl v) = some (.val (.bl (!(u == v)))) := by rw [neP_d dat_bl dat_bl, eqv_bl]
@[simp] theorem eqP_ni : eqP .non (.int i) = some (.val (.bl false)) := by rw [eqP_d dat_non dat_int, eqv_ni]
@[simp] theorem neP_ni : neP .non (.int i) = some (.val (.bl true)) := by rw [neP_d dat_non dat_int, eqv_ni]; rfl
@[simp] theorem eqP_in : eqP (.int i) .non = some (.val (.bl false)) := by rw [eqP_d dat_int dat_non, eqv_in]
@[simp] theorem neP_in : neP (.int i) .non = some (.val (.bl true)) := by rw [neP_d dat_int dat_non, eqv_in]; rfl
@[simp] theorem eqP_nn : eqP .non .non = some (.val (.bl true)) := eqP_rf dat_non
@[simp] theorem neP_nn : neP .non .non = some (.val (.bl false)) := neP_rf dat_non
@[simp] theorem eqP_nil : eqP (.lst []) (.lst []) = some (.val (.bl true)) := eqP_rf rfl
@[simp] theorem isN_v : isNP false p .non = some (.val (.bl p.isNon)) := rfl
@[simp] theorem isNN_v : isNP true p .non = some (.val (.bl (!p.isNon))) := rfl
@[simp] theorem isNon_non : P.isNon .non = true := rfl
@[simp] theorem isNon_int : P.isNon (.int i) = false := rfl
@[simp] theorem isNon_bl : P.isNon (.bl u) = false := rfl
@[simp] theorem isNon_str : P.isNon (.str x) = false := rfl
@[simp] theorem isNon_tup : P.isNon (.tup ps) = false := rfl
@[simp] theorem isNon_lst : P.isNon (.lst ps) = false := rfl
@[simp] theorem isNon_obj {C : Nat} : P.isNon (.obj C ps) = false := rfl
/-! isinstance -/
@[simp] theorem isi_int_int : isiP' [.int i, .ty "int"] = some (.val (.bl true)) := rfl
@[simp] theorem isi_int_bool : isiP' [.int i, .ty "bool"] = some (.val (.bl false)) := rfl
@[simp] theorem isi_int_str : isiP' [.int i, .ty "str"] = some (.val (.bl false)) := rfl
@[simp] theorem isi_int_list : isiP' [.int i, .ty "list"] = some (.val (.bl false)) := rfl
@[simp] theorem isi_int_tl : isiP' [.int i, .tup [.ty "tuple", .ty "list"]] = some (.val (.bl false)) := rfl
@[simp] theorem isi_int_lt : isiP' [.int i, .tup [.ty "list", .ty "tuple"]] = some (.val (.bl false)) := rfl
@[simp] theorem isi_bl_int : isiP' [.bl u, .ty "int"] = some (.val (.bl true)) := rfl
@[simp] theorem isi_bl_bool : isiP' [.bl u, .ty "bool"] = some (.val (.bl true)) := rfl
@[simp] theorem isi_bl_str : isiP' [.bl u, .ty "str"] = some (.val (.bl false)) := rfl
@[simp] theorem isi_bl_list : isiP' [.bl u, .ty "list"] = some (.val (.bl false)) := rfl
@[simp] theorem isi_bl_tl : isiP' [.bl u, .tup [.ty "tuple", .ty "list"]] = some (.val (.bl false)) := rfl
@[simp] theorem isi_bl_lt : isiP' [.bl u, .tup [.ty "list", .ty "tuple"]] = some (.val (.bl false)) := rfl
@[simp] theorem isi_non_int : isiP' [.non, .ty "int"] = some (.val (.bl false)) := rfl
@[simp] theorem isi_non_bool : isiP' [.non, .ty "bool"] = some (.val (.bl false)) := rfl
@[simp] theorem isi_non_str : isiP' [.non, .ty "str"] = some (.val (.bl false)) := rfl
@[simp] theorem isi_non_list : isiP' [.non, .ty "list"] = some (.val (.bl false)) := rfl
@[simp] theorem isi_non_tl : isiP' [.non, .tup [.ty "tuple", .ty "list"]] = some (.val (.bl false)) := rfl
@[simp] theorem isi_non_lt : isiP' [.non, .tup [.ty "list", .ty "tuple"]] = some (.val (.bl false)) := rfl
@[simp] theorem isi_str_int : isiP' [.str x, .ty "int"] = some (.val (.bl false)) := rfl
@[simp] theorem isi_str_bool : isiP' [.str x, .ty "bool"] = some (.val (.bl false)) := rfl
@[simp] theorem isi_str_str : isiP' [.str x, .ty "str"] = some (.val (.bl true)) := rfl
@[simp] theorem isi_str_list : isiP' [.str x, .ty "list"] = some (.val (.bl false)) := rfl
@[simp] theorem isi_str_tl : isiP' [.str x, .tup [.ty "tuple", .ty "list"]] = some (.val (.bl false)) := rfl
@[simp] theorem isi_str_lt : isiP' [.str x, .tup [.ty "list", .ty "tuple"]] = some (.val (.bl false)) := rfl
@[simp] theorem isi_tup_int : isiP' [.tup ps, .ty "int"] = some (.val (.bl false)) := rfl
@[simp] theorem isi_tup_bool : isiP' [.tup ps, .ty "bool"] = some (.val (.bl false)) := rfl
@[simp] theorem isi_tup_str : isiP' [.tup ps, .ty "str"] = some (.val (.bl false)) := rfl
@[simp] theorem isi_tup_list : isiP' [.tup ps, .ty "list"] = some (.val (.bl false)) := rfl
@[simp] theorem isi_tup_tuple : isiP' [.tup ps, .ty "tuple"] = some (.val (.bl true)) := rfl
@[simp] theorem isi_tup_tl : isiP' [.tup ps, .tup [.ty "tuple", .ty "list"]] = some (.val (.bl true)) := rfl
@[simp] theorem isi_tup_lt : isiP' [.tup ps, .tup [.ty "list", .ty "tuple"]] = some (.val (.bl true)) := rfl
@[simp] theorem isi_lst_int : isiP' [.lst ps, .ty "int"] = some (.val (.bl false)) := rfl
@[simp] theorem isi_lst_bool : isiP' [.lst ps, .ty "bool"] = some (.val (.bl false)) := rfl
@[simp] theorem isi_lst_str : isiP' [.lst ps, .ty "str"] = some (.val (.bl false)) := rfl
@[simp] theorem isi_lst_list : isiP' [.lst ps, .ty "list"] = some (.val (.bl true)) := rfl
@[simp] theorem isi_lst_tl : isiP' [.lst ps, .tup [.ty "tuple", .ty "list"]] = some (.val (.bl true)) := rfl
@[simp] theorem isi_lst_lt : isiP' [.lst ps, .tup [.ty "list", .ty "tuple"]] = some (.val (.bl true)) := rfl
/-! rows -/
theorem rng_nat {n : Nat} : rngP 0 (n : Int) = (List.range n).map fun (k : Nat) => P.int (k : Int) := by
  unfold rngP
  rw [show ((n : Int) - 0).toNat = n by omega]
  apply List.map_congr_left
  intro k _
  simp
theorem rng_pos {n : Int} : rngP 0 n = (List.range n.toNat).map fun (k : Nat) => P.int (k : Int) := by
  by_cases h : 0 ≤ n
  · have := rng_nat (n := n.toNat)
    rwa [Int.toNat_of_nonneg h] at this
  · unfold rngP
    rw [show (n - 0).toNat = 0 by omega, show n.toNat = 0 by omega]; rfl
theorem blsOf_m {α : Type} {g : α → Bool} : ∀ l : List α, blsOf (l.map fun a => P.bl (g a)) = some (l.map g)
  | [] => rfl
  | a :: l => by
    show (blsOf (l.map fun a => P.bl (g a))).map (g a :: ·) = _
    rw [blsOf_m l]; rfl
theorem intsOf_m {α : Type} {g : α → Int} : ∀ l : List α, intsOf (l.map fun a => P.int (g a)) = some (l.map g)
  | [] => rfl
  | a :: l => by
    show (intsOf (l.map fun a => P.int (g a))).map (g a :: ·) = _
    rw [intsOf_m l]; rfl
theorem allP_m {α : Type} {g : α → Bool} {l : List α} : allP [.lst (l.map fun a => P.bl (g a))] = some (.val (.bl (l.all g))) := by
  show (blsOf (l.map fun a => P.bl (g a))).bind (fun bs => ib (bs.all id)) = _
  rw [blsOf_m]
  simp [ib, Function.comp_def]
theorem anyP_m {α : Type} {g : α → Bool} {l : List α} : anyP [.lst (l.map fun a => P.bl (g a))] = some (.val (.bl (l.any g))) := by
  show (blsOf (l.map fun a => P.bl (g a))).bind (fun bs => ib (bs.any id)) = _
  rw [blsOf_m]
  simp [ib, Function.comp_def]
end
/-! ### loops -/
def lastO {α : Type} (o : Option α) (l : List α) : Option α := match l.getLast? with
  | some a => some a
  | none => o
theorem lastO_nil {α : Type} {o : Option α} : lastO o [] = o := rfl
theorem lastO_cons {α : Type} {o : Option α} {a : α} {l : List α} : lastO o (a :: l) = lastO (some a) l := by
  unfold lastO
  cases l with
  | nil => rfl
  | cons b l =>
    rw [List.getLast?_cons_cons]
    cases h : (b :: l).getLast? with
    | none => simp at h
    | some z => rfl
/-- a slot that a loop's turns fill -/
def ops {α : Type} (s : Sl) (g : α → P) : Option α → Sl
  | none => s
  | some a => .val (g a)
@[simp] theorem ops_lo {α : Type} {g : α → P} {o : Option α} : slLo (ops .no g o) = false := by cases o <;> rfl
@[simp] theorem ops_lov {α : Type} {g : α → P} {o : Option α} {p : P} : slLo (ops (.val p) g o) = false := by cases o <;> rfl
@[simp] theorem ops_s {α : Type} {s : Sl} {g : α → P} {a : α} : ops s g (some a) = .val (g a) := rfl
@[simp] theorem ops_n {α : Type} {s : Sl} {g : α → P} : ops s g none = s := rfl
section
variable {α σ : Type} {t : TgF} {fb : M Fl}
theorem loop_fold_app (E : σ → Option α → En) (item : α → P) (step : σ → α → σ) (R : List α → σ → Prop) (l : List α) (l2 : List P)
    (h : ∀ d a r s o, l = d ++ a :: r → R d s → R (d ++ [a]) (step s a) ∧ ∃ π1, t (item a) (E s o) = some π1 ∧ fb π1 = .ok .nx (E (step s a) (some a))) :
    ∀ s o, R [] s → loopF t fb (l.map item ++ l2) (E s o) = loopF t fb l2 (E (l.foldl step s) (lastO o l)) ∧ R l (l.foldl step s) := by
  have key : ∀ (r d : List α), l = d ++ r → ∀ s o, R d s → loopF t fb (r.map item ++ l2) (E s o) = loopF t fb l2 (E (r.foldl step s) (lastO o r)) ∧ R l (r.foldl step s) := by
    intro r
    induction r with
    | nil => intro d hd s o hR; rw [List.append_nil] at hd; subst hd; exact ⟨rfl, hR⟩
    | cons a r ih =>
      intro d hd s o hR
      obtain ⟨hR2, π1, h1, h2⟩ := h d a r s o hd hR
      have := ih (d ++ [a]) (by rw [hd]; simp) (step s a) (some a) hR2
      rw [List.map_cons, List.cons_append, List.foldl_cons, lastO_cons]
      refine ⟨?_, this.2⟩
      rw [← this.1]
      conv => lhs; unfold loopF
      simp only [h1, h2, Out.bind]
  exact fun s o hR => key l [] rfl s o hR
theorem loop_fold (E : σ → Option α → En) (item : α → P) (step : σ → α → σ) (R : List α → σ → Prop) (l : List α)
    (h : ∀ d a r s o, l = d ++ a :: r → R d s → R (d ++ [a]) (step s a) ∧ ∃ π1, t (item a) (E s o) = some π1 ∧ fb π1 = .ok .nx (E (step s a) (some a))) :
    ∀ s o, R [] s → loopF t fb (l.map item) (E s o) = .ok .nx (E (l.foldl step s) (lastO o l)) ∧ R l (l.foldl step s) := fun s o hR => by
  have := loop_fold_app (t := t) (fb := fb) E item step R l [] h s o hR
  rw [List.append_nil] at this
  exact this
theorem loop_inv (item : α → P) (I : List α → En → Prop) (l : List α)
    (h : ∀ d a r π, l = d ++ a :: r → I d π → ∃ π1 π2, t (item a) π = some π1 ∧ fb π1 = .ok .nx π2 ∧ I (d ++ [a]) π2) :
    ∀ π, I [] π → ∃ π', loopF t fb (l.map item) π = .ok .nx π' ∧ I l π' := by
  have key : ∀ (r d : List α), l = d ++ r → ∀ π, I d π → ∃ π', loopF t fb (r.map item) π = .ok .nx π' ∧ I l π' := by
    intro r
    induction r with
    | nil => intro d hd π hI; rw [List.append_nil] at hd; subst hd; exact ⟨π, rfl, hI⟩
    | cons a r ih =>
      intro d hd π hI
      obtain ⟨π1, π2, h1, h2, h3⟩ := h d a r π hd hI
      obtain ⟨π', e1, e2⟩ := ih (d ++ [a]) (by rw [hd]; simp) π2 h3
      refine ⟨π', ?_, e2⟩
      rw [List.map_cons]
      unfold loopF
      simp only [h1, h2, Out.bind]
      exact e1
  exact fun π hI => key l [] rfl π hI
/-- what a search gives -/
def fndR {α : Type} (out : α → Out Fl) (nx : Out Fl) : Option α → Out Fl
  | some a => out a
  | none => nx
@[simp] theorem fndR_s {α : Type} {out : α → Out Fl} {nx : Out Fl} {a : α} : fndR out nx (some a) = out a := rfl
@[simp] theorem fndR_n {α : Type} {out : α → Out Fl} {nx : Out Fl} : fndR out nx none = nx := rfl
/-- a loop that searches: the first with p leaves it -/
theorem loop_find (E : Option α → En) (item : α → P) (p : α → Bool) (out : α → Out Fl) (l : List α)
    (hn : ∀ a ∈ l, p a = false → ∀ o, ∃ π1, t (item a) (E o) = some π1 ∧ fb π1 = .ok .nx (E (some a)))
    (hy : ∀ a ∈ l, p a = true → ∀ o, ∃ π1, t (item a) (E o) = some π1 ∧ fb π1 = out a ∧ ((∃ r π2, out a = .ok (.rt r) π2) ∨ ∃ C ps π2, out a = .exc C ps π2)) :
    ∀ o, loopF t fb (l.map item) (E o) = fndR out (.ok .nx (E (lastO o l))) (l.find? p) := by
  induction l with
  | nil => intro o; rfl
  | cons a l ih =>
    intro o
    rw [List.map_cons]
    cases q : p a with
    | false =>
      obtain ⟨π1, h1, h2⟩ := hn a List.mem_cons_self q o
      have := ih (fun b hb => hn b (List.mem_cons_of_mem _ hb)) (fun b hb => hy b (List.mem_cons_of_mem _ hb)) (some a)
      rw [List.find?_cons_of_neg (by simp [q]), lastO_cons, ← this]
      conv => lhs; unfold loopF
      simp only [h1, h2, Out.bind]
    | true =>
      obtain ⟨π1, h1, h2, h3⟩ := hy a List.mem_cons_self q o
      rw [List.find?_cons_of_pos (by simp [q])]
      unfold loopF
      simp only [h1, h2]
      rcases h3 with ⟨r, π2, e⟩ | ⟨C, ps, π2, e⟩
      · rw [fndR_s, e]; rfl
      · rw [fndR_s, e]; rfl
end
/-! ### comprehensions -/
theorem lc_loop {α : Type} {t : TgF} {tt : M Bool} {fe : M P} {vs : List Nat} {π0 πw : En} {item : α → P} {b : α → Bool} {g : α → P} :
    ∀ (l : List α), (∀ a ∈ l, ∃ π1, t (item a) πw = some π1 ∧ tt π1 = .ok (b a) π1 ∧ (b a = true → fe π1 = .ok (g a) π1) ∧ chk vs π1 = true ∧ wipeE π1 vs = πw) → ∀ acc : List P,
    lcLoop t tt fe vs π0 (l.map item) acc πw = .ok (.own (.lst (acc ++ (l.filter b).map g))) (restE π0 πw vs)
  | [], _, acc => by simp [lcLoop]
  | a :: l, h, acc => by
    obtain ⟨π1, h1, h2, h3, h4, h5⟩ := h a List.mem_cons_self
    have ih := lc_loop (π0 := π0) l fun c hc => h c (List.mem_cons_of_mem _ hc)
    rw [List.map_cons]
    unfold lcLoop
    simp only [h1, h2]
    cases q : b a with
    | false =>
      simp only [if_pos h4, h5]
      rw [ih, List.filter_cons_of_neg (by simp [q])]
    | true =>
      simp only [h3 q, if_pos h4, h5]
      rw [ih, List.filter_cons_of_pos (by simp [q])]
      simp
theorem lc_pure {α : Type} {fi : M (List P)} {t : TgF} {tt : M Bool} {fe : M P} {vs : List Nat} {π : En} {item : α → P} {b : α → Bool} {g : α → P} (l : List α) (hfi : fi π = .ok (l.map item) π) (hc : chk vs π = true)
    (h : ∀ a ∈ l, ∃ π1, t (item a) (wipeE π vs) = some π1 ∧ tt π1 = .ok (b a) π1 ∧ (b a = true → fe π1 = .ok (g a) π1) ∧ chk vs π1 = true ∧ wipeE π1 vs = wipeE π vs) (hr : restE π (wipeE π vs) vs = π) :
    lcF fi t tt fe vs π = .ok (.own (.lst ((l.filter b).map g))) π := by
  unfold lcF
  simp only [hfi, Out.bind, if_pos hc]
  rw [lc_loop l h []]
  simp [hr]
/-- without a test -/
theorem lc_map {α : Type} {fi : M (List P)} {t : TgF} {fe : M P} {vs : List Nat} {π : En} {item : α → P} {g : α → P} (l : List α) (hfi : fi π = .ok (l.map item) π) (hc : chk vs π = true)
    (h : ∀ a ∈ l, ∃ π1, t (item a) (wipeE π vs) = some π1 ∧ fe π1 = .ok (g a) π1 ∧ chk vs π1 = true ∧ wipeE π1 vs = wipeE π vs) (hr : restE π (wipeE π vs) vs = π) :
    lcF fi t yesF fe vs π = .ok (.own (.lst (l.map g))) π := by
  have := lc_pure (tt := yesF) (b := fun _ => true) (g := g) l hfi hc (fun a ha => by
    obtain ⟨π1, h1, h2, h3, h4⟩ := h a ha
    exact ⟨π1, h1, rfl, fun _ => h2, h3, h4⟩) hr
  rw [List.filter_eq_self.mpr (fun _ _ => rfl)] at this
  exact this
end PV

set_option maxHeartbeats 1000000
namespace PV
open PySem L2
/-! ### what the later rules do, in plain words; texts as lists of signs -/
section
variable {π : En} {o : List P → Option Rv} {f : M Rs} {fa : M (List Rs)} {rs : List Rs} {lo hi : Option Int} {g h : M (Option Int)} {ps : List P} {i : Int} {r : Rs}
@[simp] theorem e_calv : calvF o fa π = (fa π).bind (calvR o) := rfl
@[simp] theorem e_calvR : calvR o rs π = match vals rs with
  | some ps => outR (o ps) π
  | none => .bad := rfl
@[simp] theorem e_slT : slTF f g h π = (f π).bind fun r π1 => (g π1).bind fun lo π2 => (h π2).bind fun hi => slTR r lo hi := rfl
@[simp] theorem e_slTR : slTR r lo hi π = match rdP π r with
  | some p => outR (slTP p lo hi) π
  | none => .bad := rfl
@[simp] theorem revP_l : revP (.lst ps) = some (.own (.lst ps.reverse)) := rfl
@[simp] theorem revP_t : revP (.tup ps) = some (.val (.tup ps.reverse)) := rfl
/-- a text by its signs -/
def tx (l : List Nat) : Str := ⟨l.toArray⟩
@[simp] theorem tx_cps (l : List Nat) : (tx l).cps.toList = l := rfl
@[simp] theorem tx_len (l : List Nat) : (tx l).length = l.length := rfl
theorem tx_inj {l m : List Nat} : tx l = tx m ↔ l = m := ⟨fun e => by have := congrArg (fun z : Str => z.cps.toList) e; simpa using this, fun e => by rw [e]⟩
theorem tx_beq (l m : List Nat) : (tx l == tx m) = decide (l = m) := by
  by_cases e : l = m
  · subst e; simp
  · simp only [e, decide_false]
    exact beq_eq_false_iff_ne.mpr fun q => e (tx_inj.mp q)
theorem tx_app (l m : List Nat) : tx l ++ tx m = tx (l ++ m) := by
  show (⟨l.toArray ++ m.toArray⟩ : Str) = _
  rw [List.append_toArray]; rfl
/-- signs that a text of Python can have -/
theorem eqv_tx (l m : List Nat) : eqv (.str (tx l)) (.str (tx m)) = decide (l = m) := by rw [eqv_str, tx_beq]
theorem ixTx {l : List Nat} (hl : l.length ≤ 1000000) : ixP (.str (tx l)) (.int i) = (atI l i).map fun n => .val (.str (tx [n])) := by
  show (if (tx l).length ≤ 1000000 then _ else _) = _
  rw [if_pos (show (tx l).length ≤ 1000000 from hl)]; rfl
theorem lenTx {l : List Nat} (hl : l.length ≤ 1000000) : lenP [.str (tx l)] = some (.val (.int l.length)) := by
  show (if (tx l).length ≤ 1000000 then _ else _) = _
  rw [if_pos (show (tx l).length ≤ 1000000 from hl)]; rfl
theorem addTx {l m : List Nat} (hl : l.length + m.length ≤ 1000000) : addP (.str (tx l)) (.str (tx m)) = some (.val (.str (tx (l ++ m)))) := by
  show (if (tx l).length + (tx m).length ≤ 1000000 then _ else _) = _
  rw [if_pos (show (tx l).length + (tx m).length ≤ 1000000 from hl), tx_app]
theorem inTx {n : Nat} {l : List Nat} (b : Bool) : inXP b (.str (tx [n])) (.str (tx l)) = some (.val (.bl (if b = true then !decide (n ∈ l) else decide (n ∈ l)))) := rfl
theorem itTx {l : List Nat} (hl : l.length ≤ 1000000) : itTR (.str (tx l)) π = .ok (l.map fun n => .str (tx [n])) π := by
  show (if (tx l).length ≤ 1000000 then _ else _) = _
  rw [if_pos (show (tx l).length ≤ 1000000 from hl)]; rfl
theorem inXL (b : Bool) (p : P) : inXP b p (.lst ps) = inLP b p (.lst ps) := by cases p <;> rfl
end
end PV

set_option maxHeartbeats 1000000
namespace PV
open PySem L2
/-! ### shared by the plain proofs: sequences, comprehensions that change slots, lent arguments -/
theorem lc_idem {fi : M (List P)} {t : TgF} {tt : M Bool} {fe : M P} {vs : List Nat} {π π' : En} {ps : List P} (h1 : fi π = .ok ps π') (h2 : fi π' = .ok ps π') : lcF fi t tt fe vs π = lcF fi t tt fe vs π' := by
  unfold lcF; rw [h1, h2]
theorem seq_ok {s t : M Fl} {π π' : En} (h : s π = .ok .nx π') : seqF s t π = t π' := by rw [e_seq, h]; rfl
theorem lcO_loop {α : Type} {i : Nat} {ps0 : List P} {t : TgF} {fe : M P} {vs : List Nat} {π0 : En} {item : α → P} (I : List α → List P → En → Prop) (l : List α)
    (h : ∀ d a r acc π, l = d ++ a :: r → I d acc π → getL π i = some ps0 ∧ ∃ π1 q π3, t (item a) π = some π1 ∧ fe π1 = .ok q π3 ∧ chk vs π3 = true ∧ I (d ++ [a]) (acc ++ [q]) (wipeE π3 vs))
    (he : ∀ acc π, I l acc π → getL π i = some ps0) : ∀ π, I [] [] π → ∃ acc π', lcLoopO i ps0 t yesF fe vs π0 (l.map item) [] π = .ok (.own (.lst acc)) (restE π0 π' vs) ∧ I l acc π' := by
  have key : ∀ (r d : List α), l = d ++ r → ∀ acc π, I d acc π → ∃ acc' π', lcLoopO i ps0 t yesF fe vs π0 (r.map item) acc π = .ok (.own (.lst acc')) (restE π0 π' vs) ∧ I l acc' π' := by
    intro r
    induction r with
    | nil =>
      intro d hd acc π hI
      rw [List.append_nil] at hd; subst hd
      refine ⟨acc, π, ?_, hI⟩
      rw [List.map_nil]
      unfold lcLoopO
      simp only [if_pos (he acc π hI)]
    | cons a r ih =>
      intro d hd acc π hI
      obtain ⟨g, π1, q, π3, h1, h2, h3, h4⟩ := h d a r acc π hd hI
      obtain ⟨acc', π', e1, e2⟩ := ih (d ++ [a]) (by rw [hd]; simp) (acc ++ [q]) _ h4
      refine ⟨acc', π', ?_, e2⟩
      rw [← e1, List.map_cons]
      conv => lhs; unfold lcLoopO
      rw [if_pos g]
      simp only [h1, show yesF π1 = .ok true π1 from rfl, h2, if_pos h3]
  exact fun π hI => key l [] rfl [] π hI
/-- a comprehension whose test and element may change slots -/
theorem lcS_loop {α : Type} {t : TgF} {tt : M Bool} {fe : M P} {vs : List Nat} {π0 : En} {item : α → P} (I : List α → List P → En → Prop) (l : List α)
    (h : ∀ d a r acc π, l = d ++ a :: r → I d acc π → ∃ π1 b π2, t (item a) π = some π1 ∧ tt π1 = .ok b π2 ∧ (b = false → chk vs π2 = true ∧ I (d ++ [a]) acc (wipeE π2 vs)) ∧ (b = true → ∃ q π3, fe π2 = .ok q π3 ∧ chk vs π3 = true ∧ I (d ++ [a]) (acc ++ [q]) (wipeE π3 vs))) :
    ∀ π, I [] [] π → ∃ acc π', lcLoop t tt fe vs π0 (l.map item) [] π = .ok (.own (.lst acc)) (restE π0 π' vs) ∧ I l acc π' := by
  have key : ∀ (r d : List α), l = d ++ r → ∀ acc π, I d acc π → ∃ acc' π', lcLoop t tt fe vs π0 (r.map item) acc π = .ok (.own (.lst acc')) (restE π0 π' vs) ∧ I l acc' π' := by
    intro r
    induction r with
    | nil =>
      intro d hd acc π hI
      rw [List.append_nil] at hd; subst hd
      exact ⟨acc, π, rfl, hI⟩
    | cons a r ih =>
      intro d hd acc π hI
      obtain ⟨π1, b, π2, h1, h2, h3, h4⟩ := h d a r acc π hd hI
      cases b with
      | false =>
        obtain ⟨c1, c2⟩ := h3 rfl
        obtain ⟨acc', π', e1, e2⟩ := ih (d ++ [a]) (by rw [hd]; simp) acc _ c2
        refine ⟨acc', π', ?_, e2⟩
        rw [← e1, List.map_cons]
        conv => lhs; unfold lcLoop
        simp only [h1, h2, if_pos c1]
      | true =>
        obtain ⟨q, π3, c0, c1, c2⟩ := h4 rfl
        obtain ⟨acc', π', e1, e2⟩ := ih (d ++ [a]) (by rw [hd]; simp) (acc ++ [q]) _ c2
        refine ⟨acc', π', ?_, e2⟩
        rw [← e1, List.map_cons]
        conv => lhs; unfold lcLoop
        simp only [h1, h2, c0, if_pos c1]
  exact fun π hI => key l [] rfl [] π hI
theorem lcS {α : Type} {fi : M (List P)} {t : TgF} {tt : M Bool} {fe : M P} {vs : List Nat} {π π0 : En} {item : α → P} (I : List α → List P → En → Prop) (l : List α) (hfi : fi π = .ok (l.map item) π0) (hc : chk vs π0 = true)
    (h : ∀ d a r acc π, l = d ++ a :: r → I d acc π → ∃ π1 b π2, t (item a) π = some π1 ∧ tt π1 = .ok b π2 ∧ (b = false → chk vs π2 = true ∧ I (d ++ [a]) acc (wipeE π2 vs)) ∧ (b = true → ∃ q π3, fe π2 = .ok q π3 ∧ chk vs π3 = true ∧ I (d ++ [a]) (acc ++ [q]) (wipeE π3 vs)))
    (h0 : I [] [] (wipeE π0 vs)) : ∃ acc π', lcF fi t tt fe vs π = .ok (.own (.lst acc)) (restE π0 π' vs) ∧ I l acc π' := by
  unfold lcF
  rw [hfi, e_bok, if_pos hc]
  exact lcS_loop I l h _ h0
/-- without a test -/
theorem lcSm {α : Type} {fi : M (List P)} {t : TgF} {fe : M P} {vs : List Nat} {π π0 : En} {item : α → P} (I : List α → List P → En → Prop) (l : List α) (hfi : fi π = .ok (l.map item) π0) (hc : chk vs π0 = true)
    (h : ∀ d a r acc π, l = d ++ a :: r → I d acc π → ∃ π1 q π3, t (item a) π = some π1 ∧ fe π1 = .ok q π3 ∧ chk vs π3 = true ∧ I (d ++ [a]) (acc ++ [q]) (wipeE π3 vs))
    (h0 : I [] [] (wipeE π0 vs)) : ∃ acc π', lcF fi t yesF fe vs π = .ok (.own (.lst acc)) (restE π0 π' vs) ∧ I l acc π' :=
  lcS I l hfi hc (fun d a r acc π e hI => by
    obtain ⟨π1, q, π3, h1, h2, h3, h4⟩ := h d a r acc π e hI
    exact ⟨π1, true, π1, h1, rfl, fun z => (by cases z), fun _ => ⟨q, π3, h2, h3, h4⟩⟩) h0
/-! slots that hold nothing or a value -/
def nv (s : Sl) : Prop := s = .no ∨ ∃ p, s = .val p
theorem nv_lo {s : Sl} (h : nv s) : slLo s = false := by rcases h with rfl | ⟨p, rfl⟩ <;> rfl
theorem nv_no : nv .no := .inl rfl
theorem nv_v {p : P} : nv (.val p) := .inr ⟨p, rfl⟩
/-! one lent argument, then values -/
theorem storeX {π : En} {i : Nat} {ps : List P} {o o0 : O} {sl : Sl} {as : List Sl} (h : π[i]? = some sl) (hs : sl.ow = some o0) : storeA π (.bor i :: ps.map Rs.val) (.loan o :: as) = π.set i (sl.put o) := by
  apply List.ext_getElem?
  intro j
  have hi := (List.getElem?_eq_some_iff.mp h).1
  rw [store_get]
  by_cases z : i = j
  · subst z
    rw [h, List.getElem?_set_self hi]
    show some (match (if i = i then some o else _) with | some o => sl.put o | none => _) = _
    rw [if_pos rfl]
  · rw [List.getElem?_set_ne z]
    have : findL j (.bor i :: ps.map Rs.val) (.loan o :: as) = none := by
      show (if i = j then some o else _) = none
      rw [if_neg z]
      exact find_vals ps as j
    rw [this]
    cases π[j]? <;> rfl
def toRx (π : En) (rs : List Rs) (x : Out Rv) : Out Rs := match x with
  | .ok r as => .ok r.rs (storeA π rs as)
  | .exc C ps as => .exc C ps (storeA π rs as)
  | .bad => .bad
theorem callR_X {Fn : FN} {π : En} {i : Nat} {ps : List P} {o : O} {sl : Sl} (h : π[i]? = some sl) (hs : sl.ow = some o) : callR Fn (.bor i :: ps.map .val) π = toRx π (.bor i :: ps.map .val) (Fn (.loan o :: ps.map .val)) := by
  unfold callR
  have e : loads π (.bor i :: ps.map .val) = some (.loan o :: ps.map .val) := by
    show (match loadR π (.bor i), loads π (ps.map Rs.val) with | some s, some ss => some (s :: ss) | _, _ => none) = _
    rw [loads_vals]
    have : loadR π (.bor i) = some (.loan o) := by
      cases sl <;> first | (cases hs; done) | (cases hs; simp [loadR, h])
    rw [this]
  rw [e]
  have e2 : ((Rs.bor i :: ps.map Rs.val).filterMap borIx) = [i] := by
    rw [List.filterMap_cons_some (f := borIx) (b := i) rfl, bor_vals]
  simp only [e2, List.nodup_cons, List.not_mem_nil, not_false_eq_true, List.nodup_nil, and_self, if_true]
  rfl
/-- a call that ends well -/
theorem call_X {Fn : FN} {π : En} {i : Nat} {ps : List P} {o o' : O} {sl : Sl} {r : Rv} {as : List Sl} (h : π[i]? = some sl) (hs : sl.ow = some o) (e : Fn (.loan o :: ps.map .val) = .ok r (.loan o' :: as)) : callR Fn (.bor i :: ps.map .val) π = .ok r.rs (π.set i (sl.put o')) := by
  rw [callR_X h hs, e]
  show Out.ok r.rs (storeA π _ _) = _
  rw [storeX h hs]
theorem call_X0 {Fn : FN} {π : En} {i : Nat} {o o' : O} {sl : Sl} {r : Rv} {as : List Sl} (h : π[i]? = some sl) (hs : sl.ow = some o) (e : Fn [.loan o] = .ok r (.loan o' :: as)) : callR Fn [.bor i] π = .ok r.rs (π.set i (sl.put o')) := call_X (ps := []) h hs e
theorem call_X1 {Fn : FN} {π : En} {i : Nat} {a : P} {o o' : O} {sl : Sl} {r : Rv} {as : List Sl} (h : π[i]? = some sl) (hs : sl.ow = some o) (e : Fn [.loan o, .val a] = .ok r (.loan o' :: as)) : callR Fn [.bor i, .val a] π = .ok r.rs (π.set i (sl.put o')) := call_X (ps := [a]) h hs e
theorem call_X2 {Fn : FN} {π : En} {i : Nat} {a b : P} {o o' : O} {sl : Sl} {r : Rv} {as : List Sl} (h : π[i]? = some sl) (hs : sl.ow = some o) (e : Fn [.loan o, .val a, .val b] = .ok r (.loan o' :: as)) : callR Fn [.bor i, .val a, .val b] π = .ok r.rs (π.set i (sl.put o')) := call_X (ps := [a, b]) h hs e
theorem call_X3 {Fn : FN} {π : En} {i : Nat} {a b c : P} {o o' : O} {sl : Sl} {r : Rv} {as : List Sl} (h : π[i]? = some sl) (hs : sl.ow = some o) (e : Fn [.loan o, .val a, .val b, .val c] = .ok r (.loan o' :: as)) : callR Fn [.bor i, .val a, .val b, .val c] π = .ok r.rs (π.set i (sl.put o')) := call_X (ps := [a, b, c]) h hs e
theorem call_X4 {Fn : FN} {π : En} {i : Nat} {a b c d : P} {o o' : O} {sl : Sl} {r : Rv} {as : List Sl} (h : π[i]? = some sl) (hs : sl.ow = some o) (e : Fn [.loan o, .val a, .val b, .val c, .val d] = .ok r (.loan o' :: as)) : callR Fn [.bor i, .val a, .val b, .val c, .val d] π = .ok r.rs (π.set i (sl.put o')) := call_X (ps := [a, b, c, d]) h hs e
end PV

set_option maxHeartbeats 1000000
namespace PV
open PySem L2
/-! ### dicts, in plain words -/
section
variable {π : En} {i : Nat} {d e : Dc} {k : Key} {p q : P} {o : O} {r : Rs} {f g : M Rs} {h : M P} {b : Bool} {fe : M P} {ff : Int → Int → Int}
@[simp] theorem isDP_d : isDP (dP d) = true := by unfold isDP; rw [kvP_d]; rfl
@[simp] theorem isiDP_d : isiDP [dP d, .ty "dict"] = some (.val (.bl true)) := by
  show (if isDP (dP d) = true then _ else _) = _
  rw [if_pos isDP_d]
theorem itemsP_d (hd : d.length ≤ 1000000) : itemsP (dP d) = some (.own (.lst (d.map itP))) := by
  unfold itemsP
  rw [kvP_d]
  show (if d.length ≤ 1000000 then _ else _) = _
  rw [if_pos hd]
@[simp] theorem valsP_d : valsP (dP d) = some (.own (.lst (dcV d))) := by unfold valsP; rw [kvP_d]; rfl
@[simp] theorem listDP_d : listDP [dP d] = some (.own (.lst (dcK d))) := by
  show (kvP (dP d)).map _ = _
  rw [kvP_d]; rfl
theorem ixDP_d (hq : keyQ q = some k) : ixDP (dP d) q = (getD' d k).map .val := by unfold ixDP; rw [kvP_d, hq]
theorem inDP_d (hq : keyQ q = some k) : inDP b q (dP d) = some (.val (.bl (if b = true then !(getD' d k).isSome else (getD' d k).isSome))) := by unfold inDP; rw [kvP_d, hq]
theorem get2P_d {z : P} (hq : keyQ q = some k) : get2P (dP d) q z = some (.val ((getD' d k).getD z)) := by unfold get2P; rw [kvP_d, hq]
@[simp] theorem e_get1 : get1F f g π = (f π).bind fun r1 π1 => match rdP π1 r1 with
  | some p => if isDP p = true then (g π1).bind fun r2 => op2 (fun p q => get2P p q .non) r1 r2 else .bad
  | none => .bad := rfl
@[simp] theorem e_get2 : get2F f g h π = (f π).bind fun r1 π1 => match rdP π1 r1 with
  | some p => if isDP p = true then (g π1).bind fun r2 π2 => (h π2).bind fun z => op2 (fun p q => get2P p q z) r1 r2 else .bad
  | none => .bad := rfl
@[simp] theorem e_dnew : dnewF π = .ok (.own (dO [])) π := rfl
@[simp] theorem e_itm : itmF f π = (f π).bind itmR := rfl
theorem itmR_d (hd : d.length ≤ 1000000) : itmR (.own (dO d)) π = .ok (d.map itP) π := by
  show (match kvP (dO d).toP with
    | some d => if d.length ≤ 1000000 then Out.ok (d.map itP) π else .bad
    | none => .bad) = _
  rw [dO_P, kvP_d]
  show (if d.length ≤ 1000000 then _ else _) = _
  rw [if_pos hd]
def slD : Sl → Option Dc
  | .own o => kvP o.toP
  | .loan o => kvP o.toP
  | _ => none
@[simp] theorem slD_o : slD (.own (dO d)) = some d := kvP_d d
@[simp] theorem slD_l : slD (.loan (dO d)) = some d := kvP_d d
@[simp] theorem e_getDc : getDc π i = (π[i]?).bind slD := by
  unfold getDc
  cases π[i]? with
  | none => rfl
  | some sl => cases sl <;> rfl
@[simp] theorem e_putDc : putDc π i d = match π[i]? with
  | some sl => π.set i (sl.put (dO d))
  | none => π := rfl
@[simp] theorem e_dst {fk : M Rs} : dstF i fe fk π = (fe π).bind fun p π1 => if (getDc π1 i).isSome then (fk π1).bind (dstR i p) else .bad := rfl
@[simp] theorem e_dstR : dstR i p (.val q) π = match keyQ q, getDc π i with
  | some k, some d => if d.length ≤ 1000000 then .ok .nx (putDc π i (putD' d k p)) else .bad
  | _, _ => .bad := rfl
@[simp] theorem e_daug {fk fv : M Rs} : daugF i ff fk fv π = if (getDc π i).isSome then (fk π).bind (daugK i ff fv) else .bad := rfl
@[simp] theorem e_daugK {fv : M Rs} : daugK i ff fv (.val q) π = match getDc π i with
  | some d => (match keyQ q with
    | some k => (match getD' d k with
      | some (.int a) => (fv π).bind (daugR i ff k a)
      | _ => .bad)
    | none => .bad)
  | _ => .bad := by
  unfold daugK
  cases getDc π i <;> rfl
@[simp] theorem e_daugR {a c : Int} : daugR i ff k a (.val (.int c)) π = match getDc π i with
  | some d => if d.length ≤ 1000000 then .ok .nx (putDc π i (putD' d k (.int (ff a c)))) else .bad
  | _ => .bad := by
  unfold daugR
  cases getDc π i <;> rfl
end
/-! dicts that are made -/
theorem putD_new {d : Dc} {k : Key} {p : P} (h : k ∉ d.map (·.1)) : putD' d k p = d ++ [(k, p)] := by
  unfold putD'
  rw [if_neg]
  intro z
  rw [List.any_eq_true] at z
  obtain ⟨x, hx, e⟩ := z
  exact h (List.mem_map.mpr ⟨x, hx, of_decide_eq_true e⟩)
theorem mergeD_app : ∀ {e d : Dc}, ((d ++ e).map (·.1)).Nodup → mergeD' d e = d ++ e
  | [], d, _ => by rw [List.append_nil]; rfl
  | x :: e, d, h => by
    have hk : x.1 ∉ d.map (·.1) := fun z => by
      rw [List.map_append, List.nodup_append] at h
      exact h.2.2 _ z _ (by simp) rfl
    show mergeD' (putD' d x.1 x.2) e = _
    rw [putD_new hk]
    have e1 : d ++ [(x.1, x.2)] ++ e = d ++ x :: e := by simp
    rw [mergeD_app (by rw [e1]; exact h), e1]
theorem mergeD_nil {e : Dc} (h : (e.map (·.1)).Nodup) : mergeD' [] e = e := by
  have := mergeD_app (d := []) (e := e) (by simpa using h)
  simpa using this
theorem getD_at {d : Dc} {k : Key} {p : P} {i : Nat} (hn : (d.map (·.1)).Nodup) (h : d[i]? = some (k, p)) : getD' d k = some p := by
  unfold getD'
  have : d.find? (fun x => decide (x.1 = k)) = some (k, p) := by
    obtain ⟨hi, e⟩ := List.getElem?_eq_some_iff.mp h
    rw [List.find?_eq_some_iff_getElem]
    refine ⟨by simp, i, hi, e, fun j hj => ?_⟩
    have := (List.pairwise_iff_getElem.mp (List.nodup_iff_pairwise_ne.mp hn)) j i (by simp; omega) (by simpa using hi) hj
    simp only [List.getElem_map, e] at this
    simpa using this
  rw [this]; rfl
theorem prsOf_map {α : Type} {f : α → Key} {g : α → P} : ∀ l : List α, prsOf (l.map fun a => P.tup [keyP (f a), g a]) = some (l.map fun a => (f a, g a))
  | [] => rfl
  | a :: l => by
    have hk : keyQ (keyP (f a)) = some (f a) := by cases f a <;> rfl
    show (match keyQ (keyP (f a)), prsOf (l.map fun a => P.tup [keyP (f a), g a]) with
      | some k, some d => some ((k, g a) :: d)
      | _, _ => none) = _
    rw [hk, prsOf_map l]; rfl
theorem dictP_map {α : Type} {f : α → Key} {g : α → P} {l : List α} (hl : l.length ≤ 1000000) (hn : (l.map f).Nodup) : dictP [.lst (l.map fun a => P.tup [keyP (f a), g a])] = some (.own (dO (l.map fun a => (f a, g a)))) := by
  show (prsOf (l.map fun a => P.tup [keyP (f a), g a])).bind (fun d => if d.length ≤ 1000000 then some (Rv.own (dO (mergeD' [] d))) else none) = _
  rw [prsOf_map]
  show (if (l.map fun a => (f a, g a)).length ≤ 1000000 then some (Rv.own (dO (mergeD' [] (l.map fun a => (f a, g a))))) else none) = _
  rw [if_pos (by rw [List.length_map]; exact hl), mergeD_nil (by rw [List.map_map]; exact hn)]
/-! ### rows of pairs of ints: sorted, min -/
abbrev D2 := Int × Int
def d2P (d : D2) : P := .tup [.int d.1, .int d.2]
def le2 (a b : D2) : Bool := decide (a.1 < b.1 ∨ (a.1 = b.1 ∧ a.2 ≤ b.2))
def srt2 (ds : List D2) : List D2 := ds.mergeSort le2
theorem toD_d2 (d : D2) : toD (d2P d) = .tuple [.int d.1, .int d.2] := by simp [d2P, toD, toDs]
theorem le2_D (a b : D2) : PySem.W.dataLe false toD (d2P a) (d2P b) = le2 a b := by
  have := congrFun (congrFun (PySem.W.dataLe_ii (β := D2) (·.1) (·.2)) a) b
  show (PySem.W.dataLe false (fun p : P => toD p) (d2P a) (d2P b)) = _
  rw [PySem.W.dataLe_eq] at this ⊢
  simp only [toD_d2]
  exact this
theorem srt2_perm (ds : List D2) : (srt2 ds).Perm ds := List.mergeSort_perm _ _
theorem srt2_sorted (ds : List D2) : (srt2 ds).Pairwise fun a b => a.1 < b.1 ∨ (a.1 = b.1 ∧ a.2 ≤ b.2) :=
  (List.pairwise_mergeSort (le := le2) (fun a b c h1 h2 => by simp [le2] at h1 h2 ⊢; omega) (fun a b => by simp [le2]; omega) ds).imp fun h => of_decide_eq_true h
theorem alike_d2 (a b : D2) : PySem.W.alike (toD (d2P a)) (toD (d2P b)) = true := by
  rw [toD_d2, toD_d2]
  simp [PySem.W.alike, PySem.W.alikeAll]
theorem dat_d2 {n : Nat} {d : D2} : dat (n + 1) (d2P d) = true := by simp [d2P, dat]
theorem sort_d2 (ds : List D2) : sortP [.lst (ds.map d2P)] = some (.own (.lst ((srt2 ds).map d2P))) := by
  have ok : srtOk (ds.map d2P) = true := by
    unfold srtOk
    simp only [Bool.and_eq_true, List.all_eq_true, Bool.or_eq_true]
    refine ⟨⟨fun p hp => ?_, fun p hp q hq => ?_⟩, .inl fun p hp => ?_⟩
    · obtain ⟨d, _, rfl⟩ := List.mem_map.mp hp
      exact dat_d2 (n := 58)
    · obtain ⟨d, _, rfl⟩ := List.mem_map.mp hp
      obtain ⟨e, _, rfl⟩ := List.mem_map.mp hq
      exact alike_d2 d e
    · obtain ⟨d, _, rfl⟩ := List.mem_map.mp hp
      rfl
  show (if srtOk (ds.map d2P) = true then some (Rv.own (.lst (srt toD (ds.map d2P)))) else none) = _
  rw [if_pos ok]
  congr 3
  exact (List.map_mergeSort (f := d2P) (r := le2) (s := PySem.W.dataLe false toD) fun a _ b _ => (le2_D a b).symm).symm
/-- the least of some things -/
theorem mn_spec {α : Type} {g : α → P} {lt : α → α → Bool} (h : ∀ x y, PySem.W.dataLt (toD (g y)) (toD (g x)) = lt y x) (tr : ∀ a b c, lt a b = true → lt b c = true → lt a c = true) (nt : ∀ a b c, lt a b = false → lt b c = false → lt a c = false) (ir : ∀ a, lt a a = false) :
    ∀ (l : List α) (a : α), ∃ m, m ∈ a :: l ∧ (∀ x ∈ a :: l, lt x m = false) ∧ mnP (g a) (l.map g) = g m
  | [], a => ⟨a, by simp, fun x hx => by rw [List.mem_singleton] at hx; subst hx; exact ir _, rfl⟩
  | y :: l, a => by
    have step : mnP (g a) ((y :: l).map g) = mnP (g (if lt y a = true then y else a)) (l.map g) := by
      unfold mnP
      rw [List.map_cons, List.foldl_cons, h]
      split <;> rfl
    obtain ⟨m, h1, h2, h3⟩ := mn_spec h tr nt ir l (if lt y a = true then y else a)
    refine ⟨m, ?_, ?_, by rw [step, h3]⟩
    · by_cases z : lt y a = true
      · rw [if_pos z] at h1
        rcases List.mem_cons.mp h1 with e | e <;> simp [e]
      · rw [if_neg z] at h1
        rcases List.mem_cons.mp h1 with e | e <;> simp [e]
    · intro x hx
      by_cases z : lt y a = true
      · rw [if_pos z] at h2
        rcases List.mem_cons.mp hx with e | hx
        · subst e
          cases q : lt x m with
          | false => rfl
          | true =>
            have := h2 y List.mem_cons_self
            rw [tr _ _ _ z q] at this
            cases this
        · exact h2 x hx
      · rw [if_neg z] at h2
        have z' : lt y a = false := by cases q : lt y a <;> simp_all
        rcases List.mem_cons.mp hx with e | hx
        · subst e; exact h2 _ List.mem_cons_self
        · rcases List.mem_cons.mp hx with e | hx
          · subst e; exact nt _ _ _ z' (h2 _ List.mem_cons_self)
          · exact h2 x (List.mem_cons_of_mem _ hx)
theorem min_d2 (a : D2) (l : List D2) : ∃ m, m ∈ a :: l ∧ (∀ x ∈ a :: l, m.1 < x.1 ∨ (m.1 = x.1 ∧ m.2 ≤ x.2)) ∧ minDP [.lst ((a :: l).map d2P)] = some (.val (d2P m)) := by
  have h : ∀ x y : D2, PySem.W.dataLt (toD (d2P y)) (toD (d2P x)) = !le2 x y := fun x y => by
    have := le2_D x y
    rw [PySem.W.dataLe_eq] at this
    have this : (!PySem.W.dataLt (toD (d2P y)) (toD (d2P x))) = le2 x y := this
    rw [← this, Bool.not_not]
  obtain ⟨m, h1, h2, h3⟩ := mn_spec (lt := fun y x => !le2 x y) h (fun a b c h1 h2 => by simp [le2] at h1 h2 ⊢; omega) (fun a b c h1 h2 => by simp [le2] at h1 h2 ⊢; omega) (fun a => by simp [le2]) l a
  refine ⟨m, h1, fun x hx => ?_, ?_⟩
  · have := h2 x hx
    simp [le2] at this
    omega
  · have ok : minOk ((a :: l).map d2P) = true := by
      unfold minOk
      simp only [Bool.and_eq_true, List.all_eq_true]
      refine ⟨⟨fun p hp => ?_, fun p hp q hq => ?_⟩, fun p hp => ?_⟩
      · obtain ⟨d, _, rfl⟩ := List.mem_map.mp hp
        exact dat_d2 (n := 58)
      · obtain ⟨d, _, rfl⟩ := List.mem_map.mp hp
        obtain ⟨e, _, rfl⟩ := List.mem_map.mp hq
        exact alike_d2 d e
      · obtain ⟨d, _, rfl⟩ := List.mem_map.mp hp
        rfl
    rw [List.map_cons] at ok ⊢
    show (if minOk (d2P a :: l.map d2P) = true then some (Rv.val (mnP (d2P a) (l.map d2P))) else none) = _
    rw [if_pos ok, h3]
theorem min_i (a : Int) (l : List Int) : ∃ m, m ∈ a :: l ∧ (∀ x ∈ a :: l, m ≤ x) ∧ minDP [.lst ((a :: l).map P.int)] = some (.val (.int m)) := by
  have hD : ∀ i : Int, toD (.int i) = .int i := fun i => by simp [toD]
  have h : ∀ x y : Int, PySem.W.dataLt (toD (.int y)) (toD (.int x)) = decide (y < x) := fun x y => by rw [hD, hD, PySem.W.dataLt_int]
  obtain ⟨m, h1, h2, h3⟩ := mn_spec (g := P.int) (lt := fun y x => decide (y < x)) h (fun a b c h1 h2 => by simp at h1 h2 ⊢; omega) (fun a b c h1 h2 => by simp at h1 h2 ⊢; omega) (fun a => by simp) l a
  refine ⟨m, h1, fun x hx => ?_, ?_⟩
  · have := h2 x hx
    simp at this
    omega
  · have ok : minOk ((a :: l).map P.int) = true := by
      unfold minOk
      simp only [Bool.and_eq_true, List.all_eq_true]
      refine ⟨⟨fun p hp => ?_, fun p hp q hq => ?_⟩, fun p hp => ?_⟩
      · obtain ⟨d, _, rfl⟩ := List.mem_map.mp hp
        exact dat_int
      · obtain ⟨d, _, rfl⟩ := List.mem_map.mp hp
        obtain ⟨e, _, rfl⟩ := List.mem_map.mp hq
        rw [hD, hD]; rfl
      · obtain ⟨d, _, rfl⟩ := List.mem_map.mp hp
        rfl
    rw [List.map_cons] at ok ⊢
    show (if minOk (P.int a :: l.map P.int) = true then some (Rv.val (mnP (P.int a) (l.map P.int))) else none) = _
    rw [if_pos ok, h3]
end PV

set_option maxHeartbeats 1000000
namespace PV
open PySem L2
/-! ### shared: a comprehension that may raise, where none does -/
theorem lcx_loop {t : TgF} {tt : M Bool} {fe : M P} {vs : List Nat} {π0 : En} : ∀ (ps acc : List P) (π : En) (r : Rs) (π' : En), lcLoop t tt fe vs π0 ps acc π = .ok r π' → lcxLoop t tt fe vs π0 ps acc π = .ok r π'
  | [], acc, π, r, π', h => h
  | p :: ps, acc, π, r, π', h => by
    unfold lcLoop at h
    unfold lcxLoop
    cases e1 : t p π with
    | none => rw [e1] at h; cases h
    | some π1 =>
      simp only [e1] at h ⊢
      cases e2 : tt π1 with
      | bad => simp only [e2] at h; cases h
      | exc C qs π2 => simp only [e2] at h; cases h
      | ok b π2 =>
        cases b with
        | false =>
          simp only [e2] at h ⊢
          split at h
          · rename_i hc
            rw [if_pos hc]
            exact lcx_loop _ _ _ _ _ h
          · cases h
        | true =>
          simp only [e2] at h ⊢
          cases e3 : fe π2 with
          | bad => simp only [e3] at h; cases h
          | exc C qs π3 => simp only [e3] at h; cases h
          | ok q π3 =>
            simp only [e3] at h ⊢
            split at h
            · rename_i hc
              rw [if_pos hc]
              exact lcx_loop _ _ _ _ _ h
            · cases h
theorem lcx_of {fi : M (List P)} {t : TgF} {tt : M Bool} {fe : M P} {vs : List Nat} {π : En} {r : Rs} {π' : En} (h : lcF fi t tt fe vs π = .ok r π') : lcxF fi t tt fe vs π = .ok r π' := by
  unfold lcF at h
  unfold lcxF
  cases e : fi π with
  | bad => rw [e] at h; cases h
  | exc C qs π2 => rw [e] at h; cases h
  | ok ps π1 =>
    rw [e] at h
    simp only [Out.bind] at h ⊢
    split at h
    · rename_i hc
      rw [if_pos hc]
      exact lcx_loop _ _ _ _ _ h
    · cases h
@[simp] theorem e_seqTt {u : List P → En → Option En} {ps : List P} {π : En} : seqT u (.tup ps) π = u ps π := rfl
@[simp] theorem e_seqTl {u : List P → En → Option En} {ps : List P} {π : En} : seqT u (.lst ps) π = u ps π := rfl
@[simp] theorem e_pm {o : List P → Option Rv} {f : M Rs} {fa : M (List Rs)} {π : En} : pmF o f fa π = (f π).bind fun r π1 => match rdP π1 r with
  | some (.lst _) => (fa π1).bind fun rs => opN o (r :: rs)
  | _ => .bad := rfl
theorem dat_l {n : Nat} {ps : List P} : dat (n + 1) (.lst ps) = ps.all (dat n) := rfl
theorem index_g {α : Type} [DecidableEq α] {g : α → P} (hg : ∀ a b, eqv (g a) (g b) = decide (a = b)) {l : List α} {j : Nat} {c : α} (hd : ∀ a ∈ l, dat 59 (g a) = true) (hd2 : dat 60 (g c) = true) (h : l[j]? = some c) (hf : ∀ i, i < j → ∀ v, l[i]? = some v → v ≠ c) : indexP [.lst (l.map g), g c] = some (.val (.int (j : Nat))) := by
  have h1 : dat 60 (.lst (l.map g)) = true := by
    show (l.map g).all (dat 59) = true
    rw [List.all_eq_true]
    intro p hp
    obtain ⟨a, ha, rfl⟩ := List.mem_map.mp hp
    exact hd a ha
  have h2 : (l.map g).findIdx? (fun z => eqv z (g c)) = some j := by
    obtain ⟨hj, ej⟩ := List.getElem?_eq_some_iff.mp h
    rw [List.findIdx?_eq_some_iff_getElem]
    refine ⟨by rw [List.length_map]; exact hj, by rw [List.getElem_map, ej, hg]; simp, fun i hi => ?_⟩
    have hil : i < l.length := by omega
    rw [List.getElem_map, hg]
    have := hf i hi _ (List.getElem?_eq_getElem hil)
    simpa using this
  show (if dat 60 (.lst (l.map g)) = true ∧ dat 60 (g c) = true then _ else _) = _
  rw [if_pos ⟨h1, hd2⟩, h2]; rfl
theorem min_at {l : List Int} {j : Nat} {c : Int} (h : l[j]? = some c) (hm : ∀ (i : Nat) v, l[i]? = some v → c < v ∨ (c = v ∧ j ≤ i)) : minDP [.lst (l.map P.int)] = some (.val (.int c)) ∧ indexP [.lst (l.map P.int), .int c] = some (.val (.int (j : Nat))) := by
  refine ⟨?_, index_g (g := P.int) (fun a b => by simp) (fun _ _ => dat_int) dat_int h fun i hi v hv => ?_⟩
  · cases l with
    | nil => simp at h
    | cons a l =>
      obtain ⟨m, g1, g2, g3⟩ := min_i a l
      rw [g3]
      obtain ⟨i, hi, ei⟩ := List.mem_iff_getElem.mp g1
      have q1 := hm i m (by rw [List.getElem?_eq_getElem hi, ei])
      have q2 := g2 c (List.mem_of_getElem? h)
      congr 3
      omega
  · have := hm i v hv
    omega
end PV

set_option maxHeartbeats 1000000
namespace PV
open PySem L2
/-! ### dicts with tuples as keys, in plain words -/
section
variable {π : En} {i : Nat} {d e : Dt} {k : List Key} {p q : P} {o : O} {r : Rs} {f g : M Rs} {h : M P} {b : Bool} {fe : M P} {ff : Int → Int → Int}
@[simp] theorem isTP_d : isTP (tdP d) = true := by unfold isTP; rw [kvT_d]; rfl
theorem ixTP_d (hq : tkeyQ q = some k) : ixTP (tdP d) q = (getT' d k).map .val := by unfold ixTP; rw [kvT_d, hq]
theorem inTP_d (hq : tkeyQ q = some k) : inTP b q (tdP d) = some (.val (.bl (if b = true then !(getT' d k).isSome else (getT' d k).isSome))) := by unfold inTP; rw [kvT_d, hq]
theorem get2TP_d {z : P} (hq : tkeyQ q = some k) : get2TP (tdP d) q z = some (.val ((getT' d k).getD z)) := by unfold get2TP; rw [kvT_d, hq]
@[simp] theorem e_get1T : get1TF f g π = (f π).bind fun r1 π1 => match rdP π1 r1 with
  | some p => if isTP p = true then (g π1).bind fun r2 => op2 (fun p q => get2TP p q .non) r1 r2 else .bad
  | none => .bad := rfl
@[simp] theorem e_get2T : get2TF f g h π = (f π).bind fun r1 π1 => match rdP π1 r1 with
  | some p => if isTP p = true then (g π1).bind fun r2 π2 => (h π2).bind fun z => op2 (fun p q => get2TP p q z) r1 r2 else .bad
  | none => .bad := rfl
@[simp] theorem e_dnewT : dnewTF π = .ok (.own (tdO [])) π := rfl
def slDt : Sl → Option Dt
  | .own o => kvT o.toP
  | .loan o => kvT o.toP
  | _ => none
@[simp] theorem slDt_o : slDt (.own (tdO d)) = some d := kvT_d d
@[simp] theorem slDt_l : slDt (.loan (tdO d)) = some d := kvT_d d
@[simp] theorem e_getDt : getDt π i = (π[i]?).bind slDt := by
  unfold getDt
  cases π[i]? with
  | none => rfl
  | some sl => cases sl <;> rfl
@[simp] theorem e_putDt : putDt π i d = match π[i]? with
  | some sl => π.set i (sl.put (tdO d))
  | none => π := rfl
@[simp] theorem e_dstT {fk : M Rs} : dstTF i fe fk π = (fe π).bind fun p π1 => if (getDt π1 i).isSome then (fk π1).bind (dstTR i p) else .bad := rfl
@[simp] theorem e_dstTR : dstTR i p (.val q) π = match tkeyQ q, getDt π i with
  | some k, some d => if d.length ≤ 1000000 then .ok .nx (putDt π i (putT' d k p)) else .bad
  | _, _ => .bad := rfl
end
/-! dicts that are made -/
theorem putT_new {d : Dt} {k : List Key} {p : P} (h : k ∉ d.map (·.1)) : putT' d k p = d ++ [(k, p)] := by
  unfold putT'
  rw [if_neg]
  intro z
  rw [List.any_eq_true] at z
  obtain ⟨x, hx, e⟩ := z
  exact h (List.mem_map.mpr ⟨x, hx, of_decide_eq_true e⟩)
theorem mergeT_app : ∀ {e d : Dt}, ((d ++ e).map (·.1)).Nodup → mergeT' d e = d ++ e
  | [], d, _ => by rw [List.append_nil]; rfl
  | x :: e, d, h => by
    have hk : x.1 ∉ d.map (·.1) := fun z => by
      rw [List.map_append, List.nodup_append] at h
      exact h.2.2 _ z _ (by simp) rfl
    show mergeT' (putT' d x.1 x.2) e = _
    rw [putT_new hk]
    have e1 : d ++ [(x.1, x.2)] ++ e = d ++ x :: e := by simp
    rw [mergeT_app (by rw [e1]; exact h), e1]
theorem mergeT_nil {e : Dt} (h : (e.map (·.1)).Nodup) : mergeT' [] e = e := by
  have := mergeT_app (d := []) (e := e) (by simpa using h)
  simpa using this
theorem getT_at {d : Dt} {k : List Key} {p : P} {i : Nat} (hn : (d.map (·.1)).Nodup) (h : d[i]? = some (k, p)) : getT' d k = some p := by
  unfold getT'
  have : d.find? (fun x => decide (x.1 = k)) = some (k, p) := by
    obtain ⟨hi, e⟩ := List.getElem?_eq_some_iff.mp h
    rw [List.find?_eq_some_iff_getElem]
    refine ⟨by simp, i, hi, e, fun j hj => ?_⟩
    have := (List.pairwise_iff_getElem.mp (List.nodup_iff_pairwise_ne.mp hn)) j i (by simp; omega) (by simpa using hi) hj
    simp only [List.getElem_map, e] at this
    simpa using this
  rw [this]; rfl
theorem prsTOf_map {α : Type} {f : α → List Key} {g : α → P} : ∀ l : List α, prsTOf (l.map fun a => P.tup [tkeyP (f a), g a]) = some (l.map fun a => (f a, g a))
  | [] => rfl
  | a :: l => by
    have hk : tkeyQ (tkeyP (f a)) = some (f a) := tkeyQ_k _
    show (match tkeyQ (tkeyP (f a)), prsTOf (l.map fun a => P.tup [tkeyP (f a), g a]) with
      | some k, some d => some ((k, g a) :: d)
      | _, _ => none) = _
    rw [hk, prsTOf_map l]; rfl
theorem dictTP_map {α : Type} {f : α → List Key} {g : α → P} {l : List α} (hl : l.length ≤ 1000000) (hn : (l.map f).Nodup) : dictTP [.lst (l.map fun a => P.tup [tkeyP (f a), g a])] = some (.own (tdO (l.map fun a => (f a, g a)))) := by
  show (prsTOf (l.map fun a => P.tup [tkeyP (f a), g a])).bind (fun d => if d.length ≤ 1000000 then some (Rv.own (tdO (mergeT' [] d))) else none) = _
  rw [prsTOf_map]
  show (if (l.map fun a => (f a, g a)).length ≤ 1000000 then some (Rv.own (tdO (mergeT' [] (l.map fun a => (f a, g a))))) else none) = _
  rw [if_pos (by rw [List.length_map]; exact hl), mergeT_nil (by rw [List.map_map]; exact hn)]
/-! the rest -/
section
variable {π : En} {i j l : Nat} {p q : P} {o : O} {r : Rs} {fa : M (List Rs)} {ps : List P} {d : Dc}
@[simp] theorem e_par3D : par3DF i j l fa π = (fa π).bind (par3DR i j l) := rfl
@[simp] theorem e_par3DR {r1 r2 r3 : Rs} : par3DR i j l [r1, r2, r3] π = (setR i r1 π).bind (fun _ π1 => (setR j r2 π1).bind fun _ π2 => setR l r3 π2) := rfl
@[simp] theorem lenDP_d : lenDP [dP d] = some (.val (.int d.length)) := by
  show (kvP (dP d)).map _ = _
  rw [kvP_d]; rfl
@[simp] theorem mul01_1 {xs : List P} : mul01P (.tup (p :: xs)) (.int 1) = some (.val (.tup (p :: xs))) := rfl
@[simp] theorem mul01_0 {xs : List P} : mul01P (.tup (p :: xs)) (.int 0) = some (.val (.tup [])) := rfl
theorem eqTP_d {d e : Dt} {b : Bool} (h : sameT d e = true) : eqTP b (tdP d) (tdP e) = some (.val (.bl b)) := by
  unfold eqTP
  rw [kvT_d, kvT_d]
  show (if sameT d e = true then _ else _) = _
  rw [if_pos h]
theorem sameT_rf {d : Dt} (hn : (d.map (·.1)).Nodup) (h : ∀ x ∈ d, leafEq x.2 x.2 = true) : sameT d d = true := by
  unfold sameT
  rw [Bool.and_eq_true, List.all_eq_true]
  refine ⟨by simp, fun x hx => ?_⟩
  obtain ⟨i, hi⟩ := List.getElem?_of_mem hx
  rw [getT_at hn (k := x.1) (p := x.2) (i := i) hi]
  exact h x hx
end
end PV

set_option maxHeartbeats 1000000
namespace PV
open PySem L2
/-- data of depth up to n that alike, frozen go through -/
def dep : Nat → P → Bool
  | _, .non => true
  | _, .bl _ => true
  | _, .int _ => true
  | _, .str x => PyData.strOk x
  | n + 1, .tup xs => decide (xs.length ≤ 100000) && xs.all (dep n)
  | n + 1, .lst xs => decide (xs.length ≤ 100000) && xs.all (dep n)
  | _, _ => false
theorem dep_dat : ∀ (n : Nat) (p : P), dep n p = true → dat n p = true
  | n, .non, _ => dat_non
  | n, .bl _, _ => dat_bl
  | n, .int _, _ => dat_int
  | n, .str x, h => by rw [dat_str]; cases n <;> exact h
  | 0, .tup _, h => by simp [dep] at h
  | 0, .lst _, h => by simp [dep] at h
  | n + 1, .tup xs, h => by
    simp only [dep, Bool.and_eq_true, List.all_eq_true] at h
    show xs.all (dat n) = true
    exact List.all_eq_true.mpr fun x hx => dep_dat n x (h.2 x hx)
  | n + 1, .lst xs, h => by
    simp only [dep, Bool.and_eq_true, List.all_eq_true] at h
    show xs.all (dat n) = true
    exact List.all_eq_true.mpr fun x hx => dep_dat n x (h.2 x hx)
  | n, .dct _ _ _, h => by cases n <;> simp [dep] at h
  | n, .obj _ _, h => by cases n <;> simp [dep] at h
  | n, .fn _, h => by cases n <;> simp [dep] at h
  | n, .scr _, h => by cases n <;> simp [dep] at h
  | n, .ty _, h => by cases n <;> simp [dep] at h
  | n, .cls _, h => by cases n <;> simp [dep] at h
  | n, .nt _, h => by cases n <;> simp [dep] at h
theorem dat_mono : ∀ (n m : Nat) (p : P), n ≤ m → dat n p = true → dat m p = true
  | n, m, .non, _, _ => dat_non
  | n, m, .bl _, _, _ => dat_bl
  | n, m, .int _, _, _ => dat_int
  | n, m, .str x, _, h => by rw [dat_str] at h ⊢; exact h
  | 0, _, .tup _, _, h => by simp [dat] at h
  | 0, _, .lst _, _, h => by simp [dat] at h
  | n + 1, m + 1, .tup xs, l, h => by
    have h' : xs.all (dat n) = true := h
    show xs.all (dat m) = true
    exact List.all_eq_true.mpr fun x hx => dat_mono n m x (by omega) (List.all_eq_true.mp h' x hx)
  | n + 1, m + 1, .lst xs, l, h => by
    have h' : xs.all (dat n) = true := h
    show xs.all (dat m) = true
    exact List.all_eq_true.mpr fun x hx => dat_mono n m x (by omega) (List.all_eq_true.mp h' x hx)
  | n + 1, 0, .tup xs, l, h => by omega
  | n + 1, 0, .lst xs, l, h => by omega
  | n, m, .dct _ _ _, _, h => by cases n <;> simp [dat] at h
  | n, m, .obj _ _, _, h => by cases n <;> simp [dat] at h
  | n, m, .fn _, _, h => by cases n <;> simp [dat] at h
  | n, m, .scr _, _, h => by cases n <;> simp [dat] at h
  | n, m, .ty _, _, h => by cases n <;> simp [dat] at h
  | n, m, .cls _, _, h => by cases n <;> simp [dat] at h
  | n, m, .nt _, _, h => by cases n <;> simp [dat] at h
theorem dep60 {n : Nat} {p : P} (h : dep n p = true) (hn : n ≤ 60) : dat 60 p = true := dat_mono n 60 p hn (dep_dat n p h)
/-! alike -/
theorem alike_ok : ∀ (n : Nat) (p : P), dep n p = true → F_law_alike (n + 1) [.val p, .val p] = .ok (.val (.bl true)) [.val p, .val p] := by
  have row : ∀ (n : Nat) (ps : List P) (q : P), q = .tup ps ∨ q = .lst ps → ps.length ≤ 100000 → (∀ p ∈ ps, F_law_alike (n + 1) [.val p, .val p] = .ok (.val (.bl true)) [.val p, .val p]) → F_law_alike (n + 2) [.val q, .val q] = .ok (.val (.bl true)) [.val q, .val q] := fun n ps q hq hl ih => by
    have hix : ∀ k : Nat, k < ps.length → ixP q (.int (k : Int)) = (ps[k]?).map .val := fun k hk => by
      rcases hq with rfl | rfl <;> simp [ixT, ixL, atI_nat]
    have hlc := lc_pure (fi := rng1F (consF (calF lenP (consF (varF 1) nilF)) nilF)) (t := nameT 2) (tt := notF (tstF (callF (F_law_alike (n + 1)) (consF (binF ixP (varF 0) (varF 2)) (consF (binF ixP (varF 1) (varF 2)) nilF))))) (fe := takeF (varF 2)) (vs := [2]) (π := [.val q, .val q, .no])
      (item := fun k : Nat => P.int (k : Int)) (b := fun _ => false) (g := fun k : Nat => P.int (k : Int)) (List.range ps.length)
      (by rcases hq with rfl | rfl <;> (simp [rng_nat]; omega)) (by simp [chk]) (fun k hk => by
        have hk' : k < ps.length := List.mem_range.mp hk
        have e : ps[k]? = some ps[k] := List.getElem?_eq_getElem hk'
        have h1 := ih ps[k] (List.getElem_mem hk')
        exact ⟨[.val q, .val q, .val (.int (k : Int))], by simp [wipeE, hix k hk', e, h1, chk]⟩) (by simp [restE, wipeE])
    have e0 : (List.range ps.length).filter (fun _ => false) = [] := by simp
    rw [e0, List.map_nil] at hlc
    unfold F_law_alike
    generalize F_law_alike (n + 1) = d at *
    unfold B_law_alike
    rcases hq with rfl | rfl <;> simp [hlc]
  have at0 : ∀ (n : Nat) (p : P), (match p with | .non => true | .bl _ => true | .int _ => true | .str x => PyData.strOk x | _ => false) = true → F_law_alike (n + 1) [.val p, .val p] = .ok (.val (.bl true)) [.val p, .val p] := fun n p hp => by
    cases p with
    | non => unfold F_law_alike B_law_alike; simp
    | bl b => unfold F_law_alike B_law_alike; simp
    | int b => unfold F_law_alike B_law_alike; simp
    | str b =>
      have e : eqP (.str b) (.str b) = some (.val (.bl true)) := eqP_rf (by rw [dat_str]; exact hp)
      unfold F_law_alike B_law_alike; simp [e]
    | _ => cases hp
  intro n
  induction n with
  | zero =>
    intro p hp
    refine at0 0 p ?_
    cases p <;> first | rfl | exact hp | simp [dep] at hp
  | succ n ih =>
    intro p hp
    cases p with
    | tup ps =>
      simp only [dep, Bool.and_eq_true, List.all_eq_true, decide_eq_true_eq] at hp
      exact row n ps _ (.inl rfl) hp.1 fun q hq => ih q (hp.2 q hq)
    | lst ps =>
      simp only [dep, Bool.and_eq_true, List.all_eq_true, decide_eq_true_eq] at hp
      exact row n ps _ (.inr rfl) hp.1 fun q hq => ih q (hp.2 q hq)
    | non => exact at0 _ _ rfl
    | bl b => exact at0 _ _ rfl
    | int b => exact at0 _ _ rfl
    | str b => exact at0 _ _ hp
    | _ => simp [dep] at hp
end PV

set_option maxHeartbeats 2000000
namespace PV
open PySem L2
/-! ### draws -/
def Row (ns : List Int) (o : List P) : Prop := ∃ i s r : Int, o = [.scr ns, .int i, .int s, .int r] ∧ 0 ≤ i ∧ (0 ≤ s ∧ s < 2147483647) ∧ 0 ≤ r
@[simp] theorem ixN1 : ixN 4 1 = some 1 := by decide
@[simp] theorem ixN2 : ixN 4 2 = some 2 := by decide
@[simp] theorem ixN3 : ixN 4 3 = some 3 := by decide
theorem taken_ok {ns : List Int} {o : List P} {m : Int} (h : Row ns o) (hm : 1 ≤ m) (hs : Sm m) : ∃ v o', (0 ≤ v ∧ v < m) ∧ Row ns o' ∧ F_law_taken [.loan (.lst o), .val (.int m)] = .ok (.val (.int v)) [.loan (.lst o'), .val (.int m)] := by
  obtain ⟨i, s, r, rfl, hi, hs2, hr⟩ := h
  have hm0 : 0 < m := by omega
  have v0 : ∀ x : Int, 0 ≤ x % m ∧ x % m < m := fun x => ⟨Int.emod_nonneg x (by omega), Int.emod_lt_of_pos x hm0⟩
  have s7 : Sm 7 := by unfold Sm; omega
  have sS : Sm s := by unfold Sm; omega
  have s48 : Sm 48271 := by unfold Sm; omega
  unfold F_law_taken B_law_taken
  by_cases z : 0 < r
  · refine ⟨r % m, [.scr ns, .int i, .int s, .int (r / m)], v0 _, ⟨i, s, r / m, rfl, hi, hs2, Int.ediv_nonneg (by omega) (by omega)⟩, ?_⟩
    simp [ixL, z, modP_pos hm0, fdivP_sm hs hm0]
  · by_cases y : (ns.length : Int) < i + 1
    · refine ⟨((s * 48271 + 11) % 2147483647 / 7) % m, [.scr ns, .int (i + 1), .int ((s * 48271 + 11) % 2147483647), .int r], v0 _, ⟨_, _, _, rfl, by omega, ⟨Int.emod_nonneg _ (by omega), Int.emod_lt_of_pos _ (by omega)⟩, hr⟩, ?_⟩
      simp [ixL, z, y, modP_pos hm0, modP_pos (show (0 : Int) < 2147483647 by omega), fdivP_sm s7 (by omega), mulP_sm sS s48]
    · obtain ⟨cell, hc⟩ : ∃ c, ns[i.toNat]? = some c := ⟨_, List.getElem?_eq_getElem (by omega)⟩
      have hix : ixP (.scr ns) (.int i) = some (.val (.int cell)) := by rw [ixS, atI_pos hi, hc]; rfl
      have hpow : powP (.int 10) (.int 18) = some (.val (.int 1000000000000000000)) := by simp [powP, ii]
      by_cases x : (1000000000000000000 : Int) ≤ cell
      · refine ⟨cell % m, [.scr ns, .int (i + 1), .int ((s * 48271 + cell + 11) % 2147483647), .int (cell / m)], v0 _, ⟨_, _, _, rfl, by omega, ⟨Int.emod_nonneg _ (by omega), Int.emod_lt_of_pos _ (by omega)⟩, Int.ediv_nonneg (by omega) (by omega)⟩, ?_⟩
        simp [ixL, z, y, hix, hpow, x, modP_pos hm0, modP_pos (show (0 : Int) < 2147483647 by omega), fdivP_sm hs hm0, mulP_sm sS s48]
      · refine ⟨cell % m, [.scr ns, .int (i + 1), .int ((s * 48271 + cell + 11) % 2147483647), .int r], v0 _, ⟨_, _, _, rfl, by omega, ⟨Int.emod_nonneg _ (by omega), Int.emod_lt_of_pos _ (by omega)⟩, hr⟩, ?_⟩
        simp [ixL, z, y, hix, hpow, x, modP_pos hm0, modP_pos (show (0 : Int) < 2147483647 by omega), fdivP_sm hs hm0, mulP_sm sS s48]
/-! one lent argument, one value -/
def toRs (π : En) (rs : List Rs) (x : Out Rv) : Out Rs := match x with
  | .ok r as => .ok r.rs (storeA π rs as)
  | .exc C ps as => .exc C ps (storeA π rs as)
  | .bad => .bad
@[simp] theorem toRs_ok {π : En} {rs : List Rs} {r : Rv} {as : List Sl} : toRs π rs (.ok r as) = .ok r.rs (storeA π rs as) := rfl
theorem storeB {π : En} {i : Nat} {m : P} {o o0 : O} {y : Sl} (h : π[i]? = some (.own o0)) : storeA π [.bor i, .val m] [.loan o, y] = π.set i (.own o) := by
  apply List.ext_getElem?
  intro j
  have hi := (List.getElem?_eq_some_iff.mp h).1
  rw [store_get]
  by_cases z : i = j
  · subst z
    rw [h, List.getElem?_set_self hi]
    show some (match (if i = i then some o else _) with | some o => (Sl.own o0).put o | none => _) = _
    rw [if_pos rfl]; rfl
  · rw [List.getElem?_set_ne z]
    have : findL j [.bor i, .val m] [.loan o, y] = none := by
      show (if i = j then some o else _) = none
      rw [if_neg z]
      cases y <;> rfl
    rw [this]
    cases π[j]? <;> rfl
theorem callR_bv {Fn : FN} {π : En} {i : Nat} {m : P} {o : O} (h : π[i]? = some (.own o)) : callR Fn [.bor i, .val m] π = toRs π [.bor i, .val m] (Fn [.loan o, .val m]) := by
  unfold callR
  have e : loads π [.bor i, .val m] = some [.loan o, .val m] := by simp [loads, loadR, h]
  rw [e]
  have e2 : ([Rs.bor i, Rs.val m].filterMap borIx) = [i] := rfl
  simp only [e2, List.nodup_cons, List.not_mem_nil, not_false_eq_true, List.nodup_nil, and_self, if_true]
  rfl
/-- the same, the first argument lent on -/
theorem storeBl {π : En} {i : Nat} {m : P} {o o0 : O} {y : Sl} (h : π[i]? = some (.loan o0)) : storeA π [.bor i, .val m] [.loan o, y] = π.set i (.loan o) := by
  apply List.ext_getElem?
  intro j
  have hi := (List.getElem?_eq_some_iff.mp h).1
  rw [store_get]
  by_cases z : i = j
  · subst z
    rw [h, List.getElem?_set_self hi]
    show some (match (if i = i then some o else _) with | some o => (Sl.loan o0).put o | none => _) = _
    rw [if_pos rfl]; rfl
  · rw [List.getElem?_set_ne z]
    have : findL j [.bor i, .val m] [.loan o, y] = none := by
      show (if i = j then some o else _) = none
      rw [if_neg z]
      cases y <;> rfl
    rw [this]
    cases π[j]? <;> rfl
theorem callR_lv {Fn : FN} {π : En} {i : Nat} {m : P} {o : O} (h : π[i]? = some (.loan o)) : callR Fn [.bor i, .val m] π = toRs π [.bor i, .val m] (Fn [.loan o, .val m]) := by
  unfold callR
  have e : loads π [.bor i, .val m] = some [.loan o, .val m] := by simp [loads, loadR, h]
  rw [e]
  have e2 : ([Rs.bor i, Rs.val m].filterMap borIx) = [i] := rfl
  simp only [e2, List.nodup_cons, List.not_mem_nil, not_false_eq_true, List.nodup_nil, and_self, if_true]
  rfl
/-- a draw, at any place -/
theorem draw {ns : List Int} {o : List P} {m : Int} {π : En} {i : Nat} (h : Row ns o) (hm : 1 ≤ m) (hs : Sm m) (hπ : π[i]? = some (.own (.lst o))) :
    ∃ v o', (0 ≤ v ∧ v < m) ∧ Row ns o' ∧ callR F_law_taken [.bor i, .val (.int m)] π = .ok (.val (.int v)) (π.set i (.own (.lst o'))) := by
  obtain ⟨v, o', hv, ho, e⟩ := taken_ok h hm hs
  refine ⟨v, o', hv, ho, ?_⟩
  rw [callR_bv hπ, e, toRs_ok, storeB hπ]; rfl
theorem drawl {ns : List Int} {o : List P} {m : Int} {π : En} {i : Nat} (h : Row ns o) (hm : 1 ≤ m) (hs : Sm m) (hπ : π[i]? = some (.loan (.lst o))) :
    ∃ v o', (0 ≤ v ∧ v < m) ∧ Row ns o' ∧ callR F_law_taken [.bor i, .val (.int m)] π = .ok (.val (.int v)) (π.set i (.loan (.lst o'))) := by
  obtain ⟨v, o', hv, ho, e⟩ := taken_ok h hm hs
  refine ⟨v, o', hv, ho, ?_⟩
  rw [callR_lv hπ, e, toRs_ok, storeBl hπ]; rfl
/-- one of some kinds -/
theorem pickF {ns : List Int} {o : List P} {ks : List P} {kp : P} (h : Row ns o) (hk : kp = .lst ks ∨ kp = .tup ks) (h0 : 0 < ks.length) (hl : ks.length ≤ 1000000) :
    ∃ p o', p ∈ ks ∧ Row ns o' ∧ F_law_pick [.loan (.lst o), .val kp] = .ok (.val p) [.loan (.lst o'), .val kp] := by
  obtain ⟨v, o', hv, ho, e⟩ := drawl (π := [.loan (.lst o), .val kp]) (i := 0) (m := (ks.length : Int)) h (by omega) (by unfold Sm; omega) rfl
  have e1 : ks[v.toNat]? = some (ks[v.toNat]'(by omega)) := List.getElem?_eq_getElem (by omega)
  refine ⟨ks[v.toNat]'(by omega), o', List.getElem_mem _, ho, ?_⟩
  unfold F_law_pick B_law_pick
  rcases hk with rfl | rfl <;> simp [e, ixL, ixT, atI_pos hv.1, e1]
theorem pick {ns : List Int} {o : List P} {ks : List P} {kp : P} {π : En} {i : Nat} (h : Row ns o) (hk : kp = .lst ks ∨ kp = .tup ks) (h0 : 0 < ks.length) (hl : ks.length ≤ 1000000) (hπ : π[i]? = some (.own (.lst o))) :
    ∃ p o', p ∈ ks ∧ Row ns o' ∧ callR F_law_pick [.bor i, .val kp] π = .ok (.val p) (π.set i (.own (.lst o'))) := by
  obtain ⟨p, o', hp, ho, e⟩ := pickF h hk h0 hl
  refine ⟨p, o', hp, ho, ?_⟩
  rw [callR_bv hπ, e, toRs_ok, storeB hπ]; rfl
end PV

set_option maxHeartbeats 4000000
namespace PV
open PySem L2
/-! ### errors raised and caught -/
section
variable {π : En} {C n : Nat} {rv : Bool} {ks : List Str} {nm : Str} {fa : M (List Rs)} {rs : List Rs} {ps : List P} {p : P}
@[simp] theorem e_raise0 : raise0F C π = .exc C [] π := rfl
@[simp] theorem e_mkx : mkxF ks n rv nm fa π = (fa π).bind (mkxR ks n rv nm) := rfl
@[simp] theorem e_mkxR : mkxR ks n rv nm rs π = match vals rs with
  | some ps => if ps.length = n ∧ n ≤ 1000 then (match (ks.zip (if rv = true then ps.reverse else ps)).reverse.lookup nm with | some p => .ok (.val p) π | none => .bad) else .bad
  | none => .bad := rfl
end
/-- what each error tells -/
def fldN (k : Nat) (v n : P) : P := if k < 8 then v else if k = 8 then .tup [v, n] else .non
def kinds (k : Nat) : List P := (List.range 10).map fun j => P.bl (decide (j = k))
@[simp] theorem xfl1 {a : Str} {p : P} {π : En} : xfLF [a] a [p] π = .ok (.val p) π := by
  unfold xfLF
  simp
theorem xfl2a {p q : P} {π : En} : xfLF ["reason", "names"] "reason" [p, q] π = .ok (.val p) π := rfl
theorem xfl2b {p q : P} {π : En} : xfLF ["reason", "names"] "names" [p, q] π = .ok (.val q) π := rfl
def ins (k : Nat) : Bool := k == 0 || k == 1 || k == 3 || k == 6 || k == 7
theorem raised_ok {k : Nat} {v n : P} (hk : k < 10) : F_law_raised [.val (.int k), .val v, .val n] = .ok (.val (.tup [.lst (kinds k), fldN k v n])) [.val (.int k), .val v, .val n] := by
  have hi : inXP false (.int k) (.lst [.int 0, .int 1, .int 3, .int 6, .int 7]) = some (.val (.bl (ins k))) := by
    have z : k = 0 ∨ k = 1 ∨ k = 2 ∨ k = 3 ∨ k = 4 ∨ k = 5 ∨ k = 6 ∨ k = 7 ∨ k = 8 ∨ k = 9 := by omega
    rcases z with rfl | rfl | rfl | rfl | rfl | rfl | rfl | rfl | rfl | rfl <;> rfl
  have z : k = 0 ∨ k = 1 ∨ k = 2 ∨ k = 3 ∨ k = 4 ∨ k = 5 ∨ k = 6 ∨ k = 7 ∨ k = 8 ∨ k = 9 := by omega
  rcases z with rfl | rfl | rfl | rfl | rfl | rfl | rfl | rfl | rfl | rfl <;>
    (simp [ins] at hi; unfold F_law_raised B_law_raised; simp [hi, sub_k09, lay_k09, xfl2a, xfl2b, fldN, kinds, List.range_succ])
end PV

set_option maxHeartbeats 4000000
namespace PV
open PySem L2
abbrev LE (s0 s1 s2 s3 s4 s5 s6 s7 s8 : Sl) : En := [s0, s1, s2, s3, s4, s5, s6, s7, s8]
/-! ### the law -/
def valK (v : P) : Prop := ∃ z : Int, v ∈ [P.non, .int 7, .str "x", .tup [.int 1, .int 2], .bl true, .int z]
def namK (v : P) : Prop := v ∈ [P.tup [], .tup [.str "a"]]
theorem valK_dat {v : P} (h : valK v) : dat 59 v = true := by
  obtain ⟨z, h⟩ := h
  simp only [List.mem_cons, List.not_mem_nil, or_false] at h
  rcases h with rfl | rfl | rfl | rfl | rfl | rfl <;> first | rfl | decide +kernel | simp
theorem namK_dat {v : P} (h : namK v) : dat 59 v = true := by
  unfold namK at h
  simp only [List.mem_cons, List.not_mem_nil, or_false] at h
  rcases h with rfl | rfl <;> first | rfl | decide +kernel
theorem isb {v : P} (h : dat 60 v = true) : ∃ b, isiP' [v, .ty "bool"] = some (.val (.bl b)) := by
  cases v <;> first | exact ⟨_, rfl⟩ | (simp [dat] at h; done)
theorem kinds_dat {k : Nat} : dat 59 (.lst (kinds k)) = true := by
  simp [kinds]
theorem lc1 {k : Nat} {s0 s1 s3 s4 s5 s6 s7 s8 : Sl} (h8 : nv s8) (hk : k < 10) : ∃ s8', nv s8' ∧ lc_law_1 (LE s0 s1 (.val (.int (k : Nat))) s3 s4 s5 s6 s7 s8) = .ok (.own (.lst (kinds k))) (LE s0 s1 (.val (.int (k : Nat))) s3 s4 s5 s6 s7 s8') := by
  refine ⟨s8, h8, ?_⟩
  have h := lc_map (fi := (rng1F (consF (cF (.int 10)) (nilF)))) (t := nameT 8) (fe := (takeF (binF eqP (varF 8) (varF 2)))) (vs := [8]) (π := (LE s0 s1 (.val (.int (k : Nat))) s3 s4 s5 s6 s7 s8)) (item := fun j : Nat => P.int (j : Int)) (g := fun j => P.bl (decide (j = k))) (List.range 10)
    (by simp [rng_pos]) (by rcases h8 with rfl | ⟨p, rfl⟩ <;> rfl) (fun j hj => ⟨(LE s0 s1 (.val (.int (k : Nat))) s3 s4 s5 s6 s7 (.val (.int (j : Nat)))), by
      rcases h8 with rfl | ⟨p, rfl⟩ <;> simp [wipeE, chk] <;> omega⟩) (by rcases h8 with rfl | ⟨p, rfl⟩ <;> simp [restE, wipeE])
  exact h
theorem turn {ns : List Int} {o : List P} {k : Nat} {s0 s3 s4 s5 s6 s7 s8 : Sl} (hk : k < 10) (ho : Row ns o) (h4 : nv s4) (h5 : nv s5) (h6 : nv s6) (h7 : nv s7) (h8 : nv s8) :
    ∃ o' t4 t5 t6 t7 t8, Row ns o' ∧ nv t4 ∧ nv t5 ∧ nv t6 ∧ nv t7 ∧ nv t8 ∧ (seqF (setF 4 (callF (F_law_pick) (consF (varF 1) (consF (valF (takeF (lstF (consF (cF .non) (consF (cF (.int 7)) (consF (cF (.str "x")) (consF (tupF (consF (cF (.int 1)) (consF (cF (.int 2)) (nilF)))) (consF (cF (.bl true)) (consF (valF (takeF (callF (F_law_taken) (consF (varF 1) (consF (valF (takeF (binF powP (cF (.int 10)) (cF (.int 9))))) (nilF)))))) (nilF)))))))))) (nilF))))) (seqF (setF 5 (callF (F_law_pick) (consF (varF 1) (consF (valF (takeF (lstF (consF (tupF (nilF)) (consF (tupF (consF (cF (.str "a")) (nilF))) (nilF)))))) (nilF))))) (seqF (setF 6 (callF (F_law_raised) (consF (valF (takeF (varF 2))) (consF (valF (takeF (varF 4))) (consF (valF (takeF (varF 5))) (nilF)))))) (seqF (ifF (orF (tstF (binF (isNP false) (varF 6) (cF .non))) (tstF (binF neP (binF ixP (varF 6) (cF (.int 0))) (lc_law_1)))) (retF (cF (.bl false))) (skipF)) (seqF (setF 7 (valF (takeF (varF 4)))) (seqF (ifF (tstF (binF eqP (varF 2) (cF (.int 8)))) (setF 7 (tupF (consF (valF (takeF (varF 4))) (consF (valF (takeF (varF 5))) (nilF))))) (skipF)) (ifF (andF (tstF (binF ltP (varF 2) (cF (.int 9)))) (orF (tstF (binF neP (binF ixP (varF 6) (cF (.int 1))) (varF 7))) (tstF (binF neP (calF isiP' (consF (binF ixP (varF 6) (cF (.int 1))) (consF (cF (.ty "bool")) (nilF)))) (calF isiP' (consF (varF 7) (consF (cF (.ty "bool")) (nilF)))))))) (retF (cF (.bl false))) (skipF)))))))) (LE s0 (.own (.lst o)) (.val (.int (k : Nat))) s3 s4 s5 s6 s7 s8) = .ok .nx (LE s0 (.own (.lst o')) (.val (.int (k : Nat))) s3 t4 t5 t6 t7 t8) := by
  have hpow : powP (.int 10) (.int 9) = some (.val (.int 1000000000)) := by simp [powP, ii]
  obtain ⟨z, o1, hz, ho1, e1⟩ := draw (π := (LE s0 (.own (.lst o)) (.val (.int (k : Nat))) s3 s4 s5 s6 s7 s8)) (i := 1) (m := 1000000000) ho (by omega) (by unfold Sm; omega) rfl
  obtain ⟨v, o2, hv, ho2, e2⟩ := pick (π := (LE s0 (.own (.lst o1)) (.val (.int (k : Nat))) s3 s4 s5 s6 s7 s8)) (i := 1) (kp := .lst [P.non, .int 7, .str "x", .tup [.int 1, .int 2], .bl true, .int z]) ho1 (.inl rfl) (by simp) (by simp) rfl
  obtain ⟨n, o3, hn, ho3, e3⟩ := pick (π := (LE s0 (.own (.lst o2)) (.val (.int (k : Nat))) s3 (.val v) s5 s6 s7 s8)) (i := 1) (kp := .lst [P.tup [], .tup [.str "a"]]) ho2 (.inl rfl) (by simp) (by simp) rfl
  have dv := valK_dat ⟨z, hv⟩
  have dn := namK_dat hn
  simp only [List.set] at e1 e2 e3
  obtain ⟨s8', h8', e8⟩ := lc1 (k := k) (s0 := s0) (s1 := .own (.lst o3)) (s3 := s3) (s4 := .val v) (s5 := .val n) (s6 := .val (.tup [.lst (kinds k), fldN k v n])) (s7 := s7) h8 hk
  have er := raised_ok (v := v) (n := n) hk
  have eq0 : neP (.lst (kinds k)) (.lst (kinds k)) = some (.val (.bl false)) := neP_rf (dat_mono 59 60 _ (by omega) kinds_dat)
  have df : dat 60 v = true := dat_mono 59 60 _ (by omega) dv
  have dt : dat 60 (.tup [v, n]) = true := by simp [dv, dn]
  have e9 := neP_rf df
  have e10 := neP_rf dt
  obtain ⟨b1, i1⟩ := isb df
  refine ⟨o3, .val v, .val n, .val (.tup [.lst (kinds k), fldN k v n]), .val (if k = 8 then .tup [v, n] else v), s8', ho3, nv_v, nv_v, nv_v, nv_v, h8', ?_⟩
  have z : k < 8 ∨ k = 8 ∨ k = 9 := by omega
  have l4 := nv_lo h4
  have l5 := nv_lo h5
  have l6 := nv_lo h6
  have l7 := nv_lo h7
  rcases z with z | rfl | rfl
  · have z1 : ¬ ((k : Int) = 8) := by omega
    have z2 : (k : Int) < 9 := by omega
    have z3 : k ≠ 8 := by omega
    have ef : fldN k v n = v := by unfold fldN; rw [if_pos z]
    rw [ef] at er e8 ⊢
    simp [hpow, e1, e2, e3, l4, l5, l6, l7, er, e8, eq0, z1, z2, z3, e9, i1, ixT]
  · have ef : fldN 8 v n = .tup [v, n] := rfl
    rw [ef] at er e8 ⊢
    simp at er e8 e1 e2 e3
    simp [hpow, e1, e2, e3, l4, l5, l6, l7, er, e8, eq0, e10, ixT]
  · have ef : fldN 9 v n = .non := rfl
    rw [ef] at er e8 ⊢
    simp at er e8 e1 e2 e3
    simp [hpow, e1, e2, e3, l4, l5, l6, l7, er, e8, eq0, ixT]
theorem made_dep : dep 4 (.lst [.int 1, .str "a", .int 4, .int 5, .int 6, .int 7, .int 8, .int 9, .int 11, .str "s"]) = true := by decide +kernel
theorem plain : ∀ ns : List Int, ns.length ≤ 63 → ∃ πs, Flaw [.val (.scr ns)] = .ok (.val (.bl true)) πs := by
  intro ns _
  obtain ⟨π', k1, k2⟩ := loop_inv (t := nameT 2) (fb := (seqF (setF 4 (callF (F_law_pick) (consF (varF 1) (consF (valF (takeF (lstF (consF (cF .non) (consF (cF (.int 7)) (consF (cF (.str "x")) (consF (tupF (consF (cF (.int 1)) (consF (cF (.int 2)) (nilF)))) (consF (cF (.bl true)) (consF (valF (takeF (callF (F_law_taken) (consF (varF 1) (consF (valF (takeF (binF powP (cF (.int 10)) (cF (.int 9))))) (nilF)))))) (nilF)))))))))) (nilF))))) (seqF (setF 5 (callF (F_law_pick) (consF (varF 1) (consF (valF (takeF (lstF (consF (tupF (nilF)) (consF (tupF (consF (cF (.str "a")) (nilF))) (nilF)))))) (nilF))))) (seqF (setF 6 (callF (F_law_raised) (consF (valF (takeF (varF 2))) (consF (valF (takeF (varF 4))) (consF (valF (takeF (varF 5))) (nilF)))))) (seqF (ifF (orF (tstF (binF (isNP false) (varF 6) (cF .non))) (tstF (binF neP (binF ixP (varF 6) (cF (.int 0))) (lc_law_1)))) (retF (cF (.bl false))) (skipF)) (seqF (setF 7 (valF (takeF (varF 4)))) (seqF (ifF (tstF (binF eqP (varF 2) (cF (.int 8)))) (setF 7 (tupF (consF (valF (takeF (varF 4))) (consF (valF (takeF (varF 5))) (nilF))))) (skipF)) (ifF (andF (tstF (binF ltP (varF 2) (cF (.int 9)))) (orF (tstF (binF neP (binF ixP (varF 6) (cF (.int 1))) (varF 7))) (tstF (binF neP (calF isiP' (consF (binF ixP (varF 6) (cF (.int 1))) (consF (cF (.ty "bool")) (nilF)))) (calF isiP' (consF (varF 7) (consF (cF (.ty "bool")) (nilF)))))))) (retF (cF (.bl false))) (skipF))))))))) (fun (k : Nat) => P.int (k : Int))
    (fun d π => ∃ o s2 s4 s5 s6 s7 s8, Row ns o ∧ nv s2 ∧ nv s4 ∧ nv s5 ∧ nv s6 ∧ nv s7 ∧ nv s8 ∧ π = LE (.val (.scr ns)) (.own (.lst o)) s2 .no s4 s5 s6 s7 s8) (List.range 10)
    (fun d a r π hd ⟨o, s2, s4, s5, s6, s7, s8, ho, h2, h4, h5, h6, h7, h8, e⟩ => by
      subst e
      have ha : a < 10 := by
        have : a ∈ List.range 10 := by rw [hd]; simp
        exact List.mem_range.mp this
      obtain ⟨o', t4, t5, t6, t7, t8, ho', g4, g5, g6, g7, g8, e⟩ := turn (s0 := .val (.scr ns)) (s3 := .no) ha ho h4 h5 h6 h7 h8
      exact ⟨_, _, by simp [nv_lo h2], e, o', _, t4, t5, t6, t7, t8, ho', nv_v, g4, g5, g6, g7, g8, rfl⟩)
    (LE (.val (.scr ns)) (.own (.lst [.scr ns, .int 0, .int 53, .int 0])) .no .no .no .no .no .no .no) ⟨_, _, _, _, _, _, _, ⟨0, 53, 0, rfl, by omega, by omega, by omega⟩, nv_no, nv_no, nv_no, nv_no, nv_no, nv_no, rfl⟩
  obtain ⟨o, s2, s4, s5, s6, s7, s8, ho, h2, h4, h5, h6, h7, h8, e⟩ := k2
  subst e
  have ha := alike_ok 4 _ made_dep
  have e2 : Slaw2 (LE (.val (.scr ns)) (.own (.lst [.scr ns, .int 0, .int 53, .int 0])) .no .no .no .no .no .no .no) = .ok .nx (LE (.val (.scr ns)) (.own (.lst o)) s2 .no s4 s5 s6 s7 s8) := by
    unfold Slaw2 fr_law_1
    rw [e_for]
    have : (rng1F (consF (cF (.int 10)) (nilF))) (LE (.val (.scr ns)) (.own (.lst [.scr ns, .int 0, .int 53, .int 0])) .no .no .no .no .no .no .no) = .ok ((List.range 10).map fun (k : Nat) => P.int (k : Int)) (LE (.val (.scr ns)) (.own (.lst [.scr ns, .int 0, .int 53, .int 0])) .no .no .no .no .no .no .no) := by
      simp [rng_pos]
    rw [this, e_bok]
    exact k1
  have e1 : Slaw1 (LE (.val (.scr ns)) .no .no .no .no .no .no .no .no) = .ok .nx (LE (.val (.scr ns)) (.own (.lst [.scr ns, .int 0, .int 53, .int 0])) .no .no .no .no .no .no .no) := by
    unfold Slaw1
    simp
  refine ⟨[.val (.scr ns)], ?_⟩
  unfold Flaw Blaw
  rw [e_fn]
  show (match seqF Slaw1 _ (LE (.val (.scr ns)) .no .no .no .no .no .no .no .no) with | .ok (.rt r) π' => _ | .ok .nx π' => _ | .ok _ _ => _ | .exc C ps π' => _ | .bad => _) = _
  rw [seq_ok e1, seq_ok e2]
  unfold Slaw3 Slaw4 Slaw5
  have n1 : (("reason" : Str) == ("names" : Str)) = false := by decide +kernel
  have n2 : (("names" : Str) == ("reason" : Str)) = false := by decide +kernel
  simp [lay_k09, ha, List.lookup, n1, n2]
end PV

open PySem PySem.W PyProof.Rows
set_option maxRecDepth 100000 in
set_option maxHeartbeats 0 in
theorem PySem.Challenge.cw_huttohut_k09_errors_holds : PySem.Challenge.rw_huttohut_k09_errors.Holds := by
  w_on; o_law; k_head; (case hw => w_witness2)
  k_fill
  refine PV.walk (l := PySem.Challenge.rw_huttohut_k09_errors) rfl rfl rfl (fun w h Y => PySem.W.kIn_of Y) ?F
  case F =>
    intro w mg fa h KX G hmg
    refine' PV.all_mk PV.plain KX G hmg ?z_LookupError ?z_RuntimeError ?z_ValueError ?z_bool_ ?z_int_ ?z_isinstance ?z_len ?z_list ?z_range ?z_str_ ?z_super ?z_tuple ?a_HutsError ?a_BadNumber ?a_BadName ?a_BadItem ?a_BadEvent ?a_BadNote ?a_TooMany ?a_Unknown ?a_Taken ?a_Refused ?a_NothingToUndo ?anyT ?l_BadNumber ?v_BadNumber ?s_BadNumber ?e_BadNumber ?t_BadNumber ?k_BadNumber ?i_BadNumber ?it_BadNumber ?il_BadNumber ?ic_BadNumber ?cc_BadNumber' ?co_BadNumber ?cv_BadNumber ?cf_BadNumber ?cd_BadNumber' ?m_BadNumber ?lb_BadNumber ?fi_BadNumber ?mr_BadNumber ?b_BadNumber ?n_BadNumber_value ?l_BadName ?v_BadName ?s_BadName ?e_BadName ?t_BadName ?k_BadName ?i_BadName ?it_BadName ?il_BadName ?ic_BadName ?cc_BadName' ?co_BadName ?cv_BadName ?cf_BadName ?cd_BadName' ?m_BadName ?lb_BadName ?fi_BadName ?mr_BadName ?b_BadName ?n_BadName_value ?l_BadItem ?v_BadItem ?s_BadItem ?e_BadItem ?t_BadItem ?k_BadItem ?i_BadItem ?it_BadItem ?il_BadItem ?ic_BadItem ?cc_BadItem' ?co_BadItem ?cv_BadItem ?cf_BadItem ?cd_BadItem' ?m_BadItem ?lb_BadItem ?fi_BadItem ?mr_BadItem ?b_BadItem ?n_BadItem_index ?l_BadEvent ?v_BadEvent ?s_BadEvent ?e_BadEvent ?t_BadEvent ?k_BadEvent ?i_BadEvent ?it_BadEvent ?il_BadEvent ?ic_BadEvent ?cc_BadEvent' ?co_BadEvent ?cv_BadEvent ?cf_BadEvent ?cd_BadEvent' ?m_BadEvent ?lb_BadEvent ?fi_BadEvent ?mr_BadEvent ?b_BadEvent ?n_BadEvent_value ?l_BadNote ?v_BadNote ?s_BadNote ?e_BadNote ?t_BadNote ?k_BadNote ?i_BadNote ?it_BadNote ?il_BadNote ?ic_BadNote ?cc_BadNote' ?co_BadNote ?cv_BadNote ?cf_BadNote ?cd_BadNote' ?m_BadNote ?lb_BadNote ?fi_BadNote ?mr_BadNote ?b_BadNote ?n_BadNote_line ?l_TooMany ?v_TooMany ?s_TooMany ?e_TooMany ?t_TooMany ?k_TooMany ?i_TooMany ?it_TooMany ?il_TooMany ?ic_TooMany ?cc_TooMany' ?co_TooMany ?cv_TooMany ?cf_TooMany ?cd_TooMany' ?m_TooMany ?lb_TooMany ?fi_TooMany ?mr_TooMany ?b_TooMany ?n_TooMany_limit ?l_Unknown ?v_Unknown ?s_Unknown ?e_Unknown ?t_Unknown ?k_Unknown ?i_Unknown ?it_Unknown ?il_Unknown ?ic_Unknown ?cc_Unknown' ?co_Unknown ?cv_Unknown ?cf_Unknown ?cd_Unknown' ?m_Unknown ?lb_Unknown ?fi_Unknown ?mr_Unknown ?b_Unknown ?n_Unknown_value ?l_Taken ?v_Taken ?s_Taken ?e_Taken ?t_Taken ?k_Taken ?i_Taken ?it_Taken ?il_Taken ?ic_Taken ?cc_Taken' ?co_Taken ?cv_Taken ?cf_Taken ?cd_Taken' ?m_Taken ?lb_Taken ?fi_Taken ?mr_Taken ?b_Taken ?n_Taken_value ?l_Refused ?v_Refused ?s_Refused ?e_Refused ?t_Refused ?k_Refused ?i_Refused ?it_Refused ?il_Refused ?ic_Refused ?cc_Refused' ?co_Refused ?cv_Refused ?cf_Refused ?cd_Refused' ?m_Refused ?lb_Refused ?fi_Refused ?mr_Refused ?b_Refused ?n_Refused_reason ?n_Refused_names ?hnG ?htG ?e_HutsError ?t_HutsError ?x1_HutsError ?x2_HutsError ?x4_HutsError ?ha_HutsError ?hm_HutsError ?n_HutsError_index ?n_HutsError_limit ?n_HutsError_line ?n_HutsError_names ?n_HutsError_reason ?n_HutsError_value ?sv_HutsError_LookupError ?sv_HutsError_RuntimeError ?sv_HutsError_ValueError ?x1_BadNumber ?x2_BadNumber ?x4_BadNumber ?ha_BadNumber ?hm_BadNumber ?n_BadNumber_index ?n_BadNumber_limit ?n_BadNumber_line ?n_BadNumber_names ?n_BadNumber_reason ?sv_BadNumber_LookupError ?sv_BadNumber_RuntimeError ?sv_BadNumber_ValueError ?x1_BadName ?x2_BadName ?x4_BadName ?ha_BadName ?hm_BadName ?n_BadName_index ?n_BadName_limit ?n_BadName_line ?n_BadName_names ?n_BadName_reason ?sv_BadName_LookupError ?sv_BadName_RuntimeError ?sv_BadName_ValueError ?x1_BadItem ?x2_BadItem ?x4_BadItem ?ha_BadItem ?hm_BadItem ?n_BadItem_limit ?n_BadItem_line ?n_BadItem_names ?n_BadItem_reason ?n_BadItem_value ?sv_BadItem_LookupError ?sv_BadItem_RuntimeError ?sv_BadItem_ValueError ?x1_BadEvent ?x2_BadEvent ?x4_BadEvent ?ha_BadEvent ?hm_BadEvent ?n_BadEvent_index ?n_BadEvent_limit ?n_BadEvent_line ?n_BadEvent_names ?n_BadEvent_reason ?sv_BadEvent_LookupError ?sv_BadEvent_RuntimeError ?sv_BadEvent_ValueError ?x1_BadNote ?x2_BadNote ?x4_BadNote ?ha_BadNote ?hm_BadNote ?n_BadNote_index ?n_BadNote_limit ?n_BadNote_names ?n_BadNote_reason ?n_BadNote_value ?sv_BadNote_LookupError ?sv_BadNote_RuntimeError ?sv_BadNote_ValueError ?x1_TooMany ?x2_TooMany ?x4_TooMany ?ha_TooMany ?hm_TooMany ?n_TooMany_index ?n_TooMany_line ?n_TooMany_names ?n_TooMany_reason ?n_TooMany_value ?sv_TooMany_LookupError ?sv_TooMany_RuntimeError ?sv_TooMany_ValueError ?x1_Unknown ?x2_Unknown ?x4_Unknown ?ha_Unknown ?hm_Unknown ?n_Unknown_index ?n_Unknown_limit ?n_Unknown_line ?n_Unknown_names ?n_Unknown_reason ?sv_Unknown_LookupError ?sv_Unknown_RuntimeError ?sv_Unknown_ValueError ?x1_Taken ?x2_Taken ?x4_Taken ?ha_Taken ?hm_Taken ?n_Taken_index ?n_Taken_limit ?n_Taken_line ?n_Taken_names ?n_Taken_reason ?sv_Taken_LookupError ?sv_Taken_RuntimeError ?sv_Taken_ValueError ?x1_Refused ?x2_Refused ?x4_Refused ?ha_Refused ?hm_Refused ?n_Refused_index ?n_Refused_limit ?n_Refused_line ?n_Refused_value ?sv_Refused_LookupError ?sv_Refused_RuntimeError ?sv_Refused_ValueError ?e_NothingToUndo ?t_NothingToUndo ?x1_NothingToUndo ?x2_NothingToUndo ?x4_NothingToUndo ?ha_NothingToUndo ?hm_NothingToUndo ?n_NothingToUndo_index ?n_NothingToUndo_limit ?n_NothingToUndo_line ?n_NothingToUndo_names ?n_NothingToUndo_reason ?n_NothingToUndo_value ?sv_NothingToUndo_LookupError ?sv_NothingToUndo_RuntimeError ?sv_NothingToUndo_ValueError ?x0_NothingToUndo ?k_NothingToUndo ?h_HutsError_HutsError ?h_BadNumber_HutsError ?h_BadName_HutsError ?h_BadItem_HutsError ?h_BadEvent_HutsError ?h_BadNote_HutsError ?h_TooMany_HutsError ?h_Unknown_HutsError ?h_Taken_HutsError ?h_Refused_HutsError ?h_NothingToUndo_HutsError ?h_HutsError_BadNumber ?h_BadNumber_BadNumber ?h_BadName_BadNumber ?h_BadItem_BadNumber ?h_BadEvent_BadNumber ?h_BadNote_BadNumber ?h_TooMany_BadNumber ?h_Unknown_BadNumber ?h_Taken_BadNumber ?h_Refused_BadNumber ?h_NothingToUndo_BadNumber ?h_HutsError_BadName ?h_BadNumber_BadName ?h_BadName_BadName ?h_BadItem_BadName ?h_BadEvent_BadName ?h_BadNote_BadName ?h_TooMany_BadName ?h_Unknown_BadName ?h_Taken_BadName ?h_Refused_BadName ?h_NothingToUndo_BadName ?h_HutsError_BadItem ?h_BadNumber_BadItem ?h_BadName_BadItem ?h_BadItem_BadItem ?h_BadEvent_BadItem ?h_BadNote_BadItem ?h_TooMany_BadItem ?h_Unknown_BadItem ?h_Taken_BadItem ?h_Refused_BadItem ?h_NothingToUndo_BadItem ?h_HutsError_BadEvent ?h_BadNumber_BadEvent ?h_BadName_BadEvent ?h_BadItem_BadEvent ?h_BadEvent_BadEvent ?h_BadNote_BadEvent ?h_TooMany_BadEvent ?h_Unknown_BadEvent ?h_Taken_BadEvent ?h_Refused_BadEvent ?h_NothingToUndo_BadEvent ?h_HutsError_BadNote ?h_BadNumber_BadNote ?h_BadName_BadNote ?h_BadItem_BadNote ?h_BadEvent_BadNote ?h_BadNote_BadNote ?h_TooMany_BadNote ?h_Unknown_BadNote ?h_Taken_BadNote ?h_Refused_BadNote ?h_NothingToUndo_BadNote ?h_HutsError_TooMany ?h_BadNumber_TooMany ?h_BadName_TooMany ?h_BadItem_TooMany ?h_BadEvent_TooMany ?h_BadNote_TooMany ?h_TooMany_TooMany ?h_Unknown_TooMany ?h_Taken_TooMany ?h_Refused_TooMany ?h_NothingToUndo_TooMany ?h_HutsError_Unknown ?h_BadNumber_Unknown ?h_BadName_Unknown ?h_BadItem_Unknown ?h_BadEvent_Unknown ?h_BadNote_Unknown ?h_TooMany_Unknown ?h_Unknown_Unknown ?h_Taken_Unknown ?h_Refused_Unknown ?h_NothingToUndo_Unknown ?h_HutsError_Taken ?h_BadNumber_Taken ?h_BadName_Taken ?h_BadItem_Taken ?h_BadEvent_Taken ?h_BadNote_Taken ?h_TooMany_Taken ?h_Unknown_Taken ?h_Taken_Taken ?h_Refused_Taken ?h_NothingToUndo_Taken ?h_HutsError_Refused ?h_BadNumber_Refused ?h_BadName_Refused ?h_BadItem_Refused ?h_BadEvent_Refused ?h_BadNote_Refused ?h_TooMany_Refused ?h_Unknown_Refused ?h_Taken_Refused ?h_Refused_Refused ?h_NothingToUndo_Refused ?h_HutsError_NothingToUndo ?h_BadNumber_NothingToUndo ?h_BadName_NothingToUndo ?h_BadItem_NothingToUndo ?h_BadEvent_NothingToUndo ?h_BadNote_NothingToUndo ?h_TooMany_NothingToUndo ?h_Unknown_NothingToUndo ?h_Taken_NothingToUndo ?h_Refused_NothingToUndo ?h_NothingToUndo_NothingToUndo ?a__law_alike ?l__law_alike ?c__law_alike ?k__law_alike ?a__law_taken ?l__law_taken ?c__law_taken ?k__law_taken ?a__law_pick ?l__law_pick ?c__law_pick ?k__law_pick ?a__law_raised ?l__law_raised ?c__law_raised ?k__law_raised ?a_law ?l_law ?c_law ?k_law
    (case z_LookupError => k_is)
    (case z_RuntimeError => k_is)
    (case z_ValueError => k_is)
    (case z_bool_ => k_is)
    (case z_int_ => k_is)
    (case z_isinstance => k_is)
    (case z_len => k_is)
    (case z_list => k_is)
    (case z_range => k_is)
    (case z_str_ => k_is)
    (case z_super => k_is)
    (case z_tuple => k_is)
    (case a_HutsError => k_is)
    (case a_BadNumber => k_is)
    (case a_BadName => k_is)
    (case a_BadItem => k_is)
    (case a_BadEvent => k_is)
    (case a_BadNote => k_is)
    (case a_TooMany => k_is)
    (case a_Unknown => k_is)
    (case a_Taken => k_is)
    (case a_Refused => k_is)
    (case a_NothingToUndo => k_is)
    (case anyT => k_is)
    (case l_BadNumber => k_is)
    (case v_BadNumber => first | rfl | decide | decide +kernel)
    (case s_BadNumber => k_is)
    (case e_BadNumber => k_is)
    (case t_BadNumber => k_is)
    (case k_BadNumber => k_is)
    (case i_BadNumber => k_is)
    (case it_BadNumber => k_is)
    (case il_BadNumber => k_is)
    (case ic_BadNumber => k_is)
    (case cc_BadNumber' => k_is)
    (case co_BadNumber => k_is)
    (case cv_BadNumber => first | rfl | decide | decide +kernel)
    (case cf_BadNumber => first | rfl | decide | decide +kernel)
    (case cd_BadNumber' => k_is)
    (case m_BadNumber => k_is)
    (case lb_BadNumber => k_is)
    (case fi_BadNumber => k_is)
    (case mr_BadNumber => first | rfl | decide | decide +kernel)
    (case b_BadNumber => k_is)
    (case n_BadNumber_value => k_is)
    (case l_BadName => k_is)
    (case v_BadName => first | rfl | decide | decide +kernel)
    (case s_BadName => k_is)
    (case e_BadName => k_is)
    (case t_BadName => k_is)
    (case k_BadName => k_is)
    (case i_BadName => k_is)
    (case it_BadName => k_is)
    (case il_BadName => k_is)
    (case ic_BadName => k_is)
    (case cc_BadName' => k_is)
    (case co_BadName => k_is)
    (case cv_BadName => first | rfl | decide | decide +kernel)
    (case cf_BadName => first | rfl | decide | decide +kernel)
    (case cd_BadName' => k_is)
    (case m_BadName => k_is)
    (case lb_BadName => k_is)
    (case fi_BadName => k_is)
    (case mr_BadName => first | rfl | decide | decide +kernel)
    (case b_BadName => k_is)
    (case n_BadName_value => k_is)
    (case l_BadItem => k_is)
    (case v_BadItem => first | rfl | decide | decide +kernel)
    (case s_BadItem => k_is)
    (case e_BadItem => k_is)
    (case t_BadItem => k_is)
    (case k_BadItem => k_is)
    (case i_BadItem => k_is)
    (case it_BadItem => k_is)
    (case il_BadItem => k_is)
    (case ic_BadItem => k_is)
    (case cc_BadItem' => k_is)
    (case co_BadItem => k_is)
    (case cv_BadItem => first | rfl | decide | decide +kernel)
    (case cf_BadItem => first | rfl | decide | decide +kernel)
    (case cd_BadItem' => k_is)
    (case m_BadItem => k_is)
    (case lb_BadItem => k_is)
    (case fi_BadItem => k_is)
    (case mr_BadItem => first | rfl | decide | decide +kernel)
    (case b_BadItem => k_is)
    (case n_BadItem_index => k_is)
    (case l_BadEvent => k_is)
    (case v_BadEvent => first | rfl | decide | decide +kernel)
    (case s_BadEvent => k_is)
    (case e_BadEvent => k_is)
    (case t_BadEvent => k_is)
    (case k_BadEvent => k_is)
    (case i_BadEvent => k_is)
    (case it_BadEvent => k_is)
    (case il_BadEvent => k_is)
    (case ic_BadEvent => k_is)
    (case cc_BadEvent' => k_is)
    (case co_BadEvent => k_is)
    (case cv_BadEvent => first | rfl | decide | decide +kernel)
    (case cf_BadEvent => first | rfl | decide | decide +kernel)
    (case cd_BadEvent' => k_is)
    (case m_BadEvent => k_is)
    (case lb_BadEvent => k_is)
    (case fi_BadEvent => k_is)
    (case mr_BadEvent => first | rfl | decide | decide +kernel)
    (case b_BadEvent => k_is)
    (case n_BadEvent_value => k_is)
    (case l_BadNote => k_is)
    (case v_BadNote => first | rfl | decide | decide +kernel)
    (case s_BadNote => k_is)
    (case e_BadNote => k_is)
    (case t_BadNote => k_is)
    (case k_BadNote => k_is)
    (case i_BadNote => k_is)
    (case it_BadNote => k_is)
    (case il_BadNote => k_is)
    (case ic_BadNote => k_is)
    (case cc_BadNote' => k_is)
    (case co_BadNote => k_is)
    (case cv_BadNote => first | rfl | decide | decide +kernel)
    (case cf_BadNote => first | rfl | decide | decide +kernel)
    (case cd_BadNote' => k_is)
    (case m_BadNote => k_is)
    (case lb_BadNote => k_is)
    (case fi_BadNote => k_is)
    (case mr_BadNote => first | rfl | decide | decide +kernel)
    (case b_BadNote => k_is)
    (case n_BadNote_line => k_is)
    (case l_TooMany => k_is)
    (case v_TooMany => first | rfl | decide | decide +kernel)
    (case s_TooMany => k_is)
    (case e_TooMany => k_is)
    (case t_TooMany => k_is)
    (case k_TooMany => k_is)
    (case i_TooMany => k_is)
    (case it_TooMany => k_is)
    (case il_TooMany => k_is)
    (case ic_TooMany => k_is)
    (case cc_TooMany' => k_is)
    (case co_TooMany => k_is)
    (case cv_TooMany => first | rfl | decide | decide +kernel)
    (case cf_TooMany => first | rfl | decide | decide +kernel)
    (case cd_TooMany' => k_is)
    (case m_TooMany => k_is)
    (case lb_TooMany => k_is)
    (case fi_TooMany => k_is)
    (case mr_TooMany => first | rfl | decide | decide +kernel)
    (case b_TooMany => k_is)
    (case n_TooMany_limit => k_is)
    (case l_Unknown => k_is)
    (case v_Unknown => first | rfl | decide | decide +kernel)
    (case s_Unknown => k_is)
    (case e_Unknown => k_is)
    (case t_Unknown => k_is)
    (case k_Unknown => k_is)
    (case i_Unknown => k_is)
    (case it_Unknown => k_is)
    (case il_Unknown => k_is)
    (case ic_Unknown => k_is)
    (case cc_Unknown' => k_is)
    (case co_Unknown => k_is)
    (case cv_Unknown => first | rfl | decide | decide +kernel)
    (case cf_Unknown => first | rfl | decide | decide +kernel)
    (case cd_Unknown' => k_is)
    (case m_Unknown => k_is)
    (case lb_Unknown => k_is)
    (case fi_Unknown => k_is)
    (case mr_Unknown => first | rfl | decide | decide +kernel)
    (case b_Unknown => k_is)
    (case n_Unknown_value => k_is)
    (case l_Taken => k_is)
    (case v_Taken => first | rfl | decide | decide +kernel)
    (case s_Taken => k_is)
    (case e_Taken => k_is)
    (case t_Taken => k_is)
    (case k_Taken => k_is)
    (case i_Taken => k_is)
    (case it_Taken => k_is)
    (case il_Taken => k_is)
    (case ic_Taken => k_is)
    (case cc_Taken' => k_is)
    (case co_Taken => k_is)
    (case cv_Taken => first | rfl | decide | decide +kernel)
    (case cf_Taken => first | rfl | decide | decide +kernel)
    (case cd_Taken' => k_is)
    (case m_Taken => k_is)
    (case lb_Taken => k_is)
    (case fi_Taken => k_is)
    (case mr_Taken => first | rfl | decide | decide +kernel)
    (case b_Taken => k_is)
    (case n_Taken_value => k_is)
    (case l_Refused => k_is)
    (case v_Refused => first | rfl | decide | decide +kernel)
    (case s_Refused => k_is)
    (case e_Refused => k_is)
    (case t_Refused => k_is)
    (case k_Refused => k_is)
    (case i_Refused => k_is)
    (case it_Refused => k_is)
    (case il_Refused => k_is)
    (case ic_Refused => k_is)
    (case cc_Refused' => k_is)
    (case co_Refused => k_is)
    (case cv_Refused => first | rfl | decide | decide +kernel)
    (case cf_Refused => first | rfl | decide | decide +kernel)
    (case cd_Refused' => k_is)
    (case m_Refused => k_is)
    (case lb_Refused => k_is)
    (case fi_Refused => k_is)
    (case mr_Refused => first | rfl | decide | decide +kernel)
    (case b_Refused => k_is)
    (case n_Refused_reason => k_is)
    (case n_Refused_names => k_is)
    (case hnG => k_is)
    (case htG => k_is)
    (case e_HutsError => k_is)
    (case t_HutsError => k_is)
    (case x1_HutsError => k_is)
    (case x2_HutsError => k_is)
    (case x4_HutsError => k_is)
    (case ha_HutsError => k_is)
    (case hm_HutsError => k_is)
    (case n_HutsError_index => k_is)
    (case n_HutsError_limit => k_is)
    (case n_HutsError_line => k_is)
    (case n_HutsError_names => k_is)
    (case n_HutsError_reason => k_is)
    (case n_HutsError_value => k_is)
    (case sv_HutsError_LookupError => k_is)
    (case sv_HutsError_RuntimeError => k_is)
    (case sv_HutsError_ValueError => k_is)
    (case x1_BadNumber => k_is)
    (case x2_BadNumber => k_is)
    (case x4_BadNumber => k_is)
    (case ha_BadNumber => k_is)
    (case hm_BadNumber => k_is)
    (case n_BadNumber_index => k_is)
    (case n_BadNumber_limit => k_is)
    (case n_BadNumber_line => k_is)
    (case n_BadNumber_names => k_is)
    (case n_BadNumber_reason => k_is)
    (case sv_BadNumber_LookupError => k_is)
    (case sv_BadNumber_RuntimeError => k_is)
    (case sv_BadNumber_ValueError => k_is)
    (case x1_BadName => k_is)
    (case x2_BadName => k_is)
    (case x4_BadName => k_is)
    (case ha_BadName => k_is)
    (case hm_BadName => k_is)
    (case n_BadName_index => k_is)
    (case n_BadName_limit => k_is)
    (case n_BadName_line => k_is)
    (case n_BadName_names => k_is)
    (case n_BadName_reason => k_is)
    (case sv_BadName_LookupError => k_is)
    (case sv_BadName_RuntimeError => k_is)
    (case sv_BadName_ValueError => k_is)
    (case x1_BadItem => k_is)
    (case x2_BadItem => k_is)
    (case x4_BadItem => k_is)
    (case ha_BadItem => k_is)
    (case hm_BadItem => k_is)
    (case n_BadItem_limit => k_is)
    (case n_BadItem_line => k_is)
    (case n_BadItem_names => k_is)
    (case n_BadItem_reason => k_is)
    (case n_BadItem_value => k_is)
    (case sv_BadItem_LookupError => k_is)
    (case sv_BadItem_RuntimeError => k_is)
    (case sv_BadItem_ValueError => k_is)
    (case x1_BadEvent => k_is)
    (case x2_BadEvent => k_is)
    (case x4_BadEvent => k_is)
    (case ha_BadEvent => k_is)
    (case hm_BadEvent => k_is)
    (case n_BadEvent_index => k_is)
    (case n_BadEvent_limit => k_is)
    (case n_BadEvent_line => k_is)
    (case n_BadEvent_names => k_is)
    (case n_BadEvent_reason => k_is)
    (case sv_BadEvent_LookupError => k_is)
    (case sv_BadEvent_RuntimeError => k_is)
    (case sv_BadEvent_ValueError => k_is)
    (case x1_BadNote => k_is)
    (case x2_BadNote => k_is)
    (case x4_BadNote => k_is)
    (case ha_BadNote => k_is)
    (case hm_BadNote => k_is)
    (case n_BadNote_index => k_is)
    (case n_BadNote_limit => k_is)
    (case n_BadNote_names => k_is)
    (case n_BadNote_reason => k_is)
    (case n_BadNote_value => k_is)
    (case sv_BadNote_LookupError => k_is)
    (case sv_BadNote_RuntimeError => k_is)
    (case sv_BadNote_ValueError => k_is)
    (case x1_TooMany => k_is)
    (case x2_TooMany => k_is)
    (case x4_TooMany => k_is)
    (case ha_TooMany => k_is)
    (case hm_TooMany => k_is)
    (case n_TooMany_index => k_is)
    (case n_TooMany_line => k_is)
    (case n_TooMany_names => k_is)
    (case n_TooMany_reason => k_is)
    (case n_TooMany_value => k_is)
    (case sv_TooMany_LookupError => k_is)
    (case sv_TooMany_RuntimeError => k_is)
    (case sv_TooMany_ValueError => k_is)
    (case x1_Unknown => k_is)
    (case x2_Unknown => k_is)
    (case x4_Unknown => k_is)
    (case ha_Unknown => k_is)
    (case hm_Unknown => k_is)
    (case n_Unknown_index => k_is)
    (case n_Unknown_limit => k_is)
    (case n_Unknown_line => k_is)
    (case n_Unknown_names => k_is)
    (case n_Unknown_reason => k_is)
    (case sv_Unknown_LookupError => k_is)
    (case sv_Unknown_RuntimeError => k_is)
    (case sv_Unknown_ValueError => k_is)
    (case x1_Taken => k_is)
    (case x2_Taken => k_is)
    (case x4_Taken => k_is)
    (case ha_Taken => k_is)
    (case hm_Taken => k_is)
    (case n_Taken_index => k_is)
    (case n_Taken_limit => k_is)
    (case n_Taken_line => k_is)
    (case n_Taken_names => k_is)
    (case n_Taken_reason => k_is)
    (case sv_Taken_LookupError => k_is)
    (case sv_Taken_RuntimeError => k_is)
    (case sv_Taken_ValueError => k_is)
    (case x1_Refused => k_is)
    (case x2_Refused => k_is)
    (case x4_Refused => k_is)
    (case ha_Refused => k_is)
    (case hm_Refused => k_is)
    (case n_Refused_index => k_is)
    (case n_Refused_limit => k_is)
    (case n_Refused_line => k_is)
    (case n_Refused_value => k_is)
    (case sv_Refused_LookupError => k_is)
    (case sv_Refused_RuntimeError => k_is)
    (case sv_Refused_ValueError => k_is)
    (case e_NothingToUndo => k_is)
    (case t_NothingToUndo => k_is)
    (case x1_NothingToUndo => k_is)
    (case x2_NothingToUndo => k_is)
    (case x4_NothingToUndo => k_is)
    (case ha_NothingToUndo => k_is)
    (case hm_NothingToUndo => k_is)
    (case n_NothingToUndo_index => k_is)
    (case n_NothingToUndo_limit => k_is)
    (case n_NothingToUndo_line => k_is)
    (case n_NothingToUndo_names => k_is)
    (case n_NothingToUndo_reason => k_is)
    (case n_NothingToUndo_value => k_is)
    (case sv_NothingToUndo_LookupError => k_is)
    (case sv_NothingToUndo_RuntimeError => k_is)
    (case sv_NothingToUndo_ValueError => k_is)
    (case x0_NothingToUndo => k_exc)
    (case k_NothingToUndo => k_is)
    (case h_HutsError_HutsError => k_is)
    (case h_BadNumber_HutsError => k_is)
    (case h_BadName_HutsError => k_is)
    (case h_BadItem_HutsError => k_is)
    (case h_BadEvent_HutsError => k_is)
    (case h_BadNote_HutsError => k_is)
    (case h_TooMany_HutsError => k_is)
    (case h_Unknown_HutsError => k_is)
    (case h_Taken_HutsError => k_is)
    (case h_Refused_HutsError => k_is)
    (case h_NothingToUndo_HutsError => k_is)
    (case h_HutsError_BadNumber => k_is)
    (case h_BadNumber_BadNumber => k_is)
    (case h_BadName_BadNumber => k_is)
    (case h_BadItem_BadNumber => k_is)
    (case h_BadEvent_BadNumber => k_is)
    (case h_BadNote_BadNumber => k_is)
    (case h_TooMany_BadNumber => k_is)
    (case h_Unknown_BadNumber => k_is)
    (case h_Taken_BadNumber => k_is)
    (case h_Refused_BadNumber => k_is)
    (case h_NothingToUndo_BadNumber => k_is)
    (case h_HutsError_BadName => k_is)
    (case h_BadNumber_BadName => k_is)
    (case h_BadName_BadName => k_is)
    (case h_BadItem_BadName => k_is)
    (case h_BadEvent_BadName => k_is)
    (case h_BadNote_BadName => k_is)
    (case h_TooMany_BadName => k_is)
    (case h_Unknown_BadName => k_is)
    (case h_Taken_BadName => k_is)
    (case h_Refused_BadName => k_is)
    (case h_NothingToUndo_BadName => k_is)
    (case h_HutsError_BadItem => k_is)
    (case h_BadNumber_BadItem => k_is)
    (case h_BadName_BadItem => k_is)
    (case h_BadItem_BadItem => k_is)
    (case h_BadEvent_BadItem => k_is)
    (case h_BadNote_BadItem => k_is)
    (case h_TooMany_BadItem => k_is)
    (case h_Unknown_BadItem => k_is)
    (case h_Taken_BadItem => k_is)
    (case h_Refused_BadItem => k_is)
    (case h_NothingToUndo_BadItem => k_is)
    (case h_HutsError_BadEvent => k_is)
    (case h_BadNumber_BadEvent => k_is)
    (case h_BadName_BadEvent => k_is)
    (case h_BadItem_BadEvent => k_is)
    (case h_BadEvent_BadEvent => k_is)
    (case h_BadNote_BadEvent => k_is)
    (case h_TooMany_BadEvent => k_is)
    (case h_Unknown_BadEvent => k_is)
    (case h_Taken_BadEvent => k_is)
    (case h_Refused_BadEvent => k_is)
    (case h_NothingToUndo_BadEvent => k_is)
    (case h_HutsError_BadNote => k_is)
    (case h_BadNumber_BadNote => k_is)
    (case h_BadName_BadNote => k_is)
    (case h_BadItem_BadNote => k_is)
    (case h_BadEvent_BadNote => k_is)
    (case h_BadNote_BadNote => k_is)
    (case h_TooMany_BadNote => k_is)
    (case h_Unknown_BadNote => k_is)
    (case h_Taken_BadNote => k_is)
    (case h_Refused_BadNote => k_is)
    (case h_NothingToUndo_BadNote => k_is)
    (case h_HutsError_TooMany => k_is)
    (case h_BadNumber_TooMany => k_is)
    (case h_BadName_TooMany => k_is)
    (case h_BadItem_TooMany => k_is)
    (case h_BadEvent_TooMany => k_is)
    (case h_BadNote_TooMany => k_is)
    (case h_TooMany_TooMany => k_is)
    (case h_Unknown_TooMany => k_is)
    (case h_Taken_TooMany => k_is)
    (case h_Refused_TooMany => k_is)
    (case h_NothingToUndo_TooMany => k_is)
    (case h_HutsError_Unknown => k_is)
    (case h_BadNumber_Unknown => k_is)
    (case h_BadName_Unknown => k_is)
    (case h_BadItem_Unknown => k_is)
    (case h_BadEvent_Unknown => k_is)
    (case h_BadNote_Unknown => k_is)
    (case h_TooMany_Unknown => k_is)
    (case h_Unknown_Unknown => k_is)
    (case h_Taken_Unknown => k_is)
    (case h_Refused_Unknown => k_is)
    (case h_NothingToUndo_Unknown => k_is)
    (case h_HutsError_Taken => k_is)
    (case h_BadNumber_Taken => k_is)
    (case h_BadName_Taken => k_is)
    (case h_BadItem_Taken => k_is)
    (case h_BadEvent_Taken => k_is)
    (case h_BadNote_Taken => k_is)
    (case h_TooMany_Taken => k_is)
    (case h_Unknown_Taken => k_is)
    (case h_Taken_Taken => k_is)
    (case h_Refused_Taken => k_is)
    (case h_NothingToUndo_Taken => k_is)
    (case h_HutsError_Refused => k_is)
    (case h_BadNumber_Refused => k_is)
    (case h_BadName_Refused => k_is)
    (case h_BadItem_Refused => k_is)
    (case h_BadEvent_Refused => k_is)
    (case h_BadNote_Refused => k_is)
    (case h_TooMany_Refused => k_is)
    (case h_Unknown_Refused => k_is)
    (case h_Taken_Refused => k_is)
    (case h_Refused_Refused => k_is)
    (case h_NothingToUndo_Refused => k_is)
    (case h_HutsError_NothingToUndo => k_is)
    (case h_BadNumber_NothingToUndo => k_is)
    (case h_BadName_NothingToUndo => k_is)
    (case h_BadItem_NothingToUndo => k_is)
    (case h_BadEvent_NothingToUndo => k_is)
    (case h_BadNote_NothingToUndo => k_is)
    (case h_TooMany_NothingToUndo => k_is)
    (case h_Unknown_NothingToUndo => k_is)
    (case h_Taken_NothingToUndo => k_is)
    (case h_Refused_NothingToUndo => k_is)
    (case h_NothingToUndo_NothingToUndo => k_is)
    (case a__law_alike => k_is)
    (case l__law_alike => k_is)
    (case c__law_alike => k_is)
    (case k__law_alike => k_is)
    (case a__law_taken => k_is)
    (case l__law_taken => k_is)
    (case c__law_taken => k_is)
    (case k__law_taken => k_is)
    (case a__law_pick => k_is)
    (case l__law_pick => k_is)
    (case c__law_pick => k_is)
    (case k__law_pick => k_is)
    (case a__law_raised => k_is)
    (case l__law_raised => k_is)
    (case c__law_raised => k_is)
    (case k__law_raised => k_is)
    (case a_law => k_is)
    (case l_law => k_is)
    (case c_law => k_is)
    (case k_law => k_is)
