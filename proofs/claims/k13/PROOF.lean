import PyProof.Rows.All
import Wide.All
import OpenK.AllK
import Wide.FinOn
import HandS.ForMost
import HandS.ForExc
import HandS.Wide
import HandS.Gcd
import HandS.TryMany
import KE.DataEq
import HandS.TupAny
import HandS.IsInst
import HandS.CallSlots
import HandS.Defaults
import HandS.ExcInit
import HandS.EndBits
import PySem.Challenge.RW_consol_k13_whole_interest_adds_up
set_option Elab.async false
set_option linter.all false
set_option maxRecDepth 100000
set_option maxHeartbeats 4000000
namespace Mp
open PySem PySem.Spec PyProof.Rows L2
/-! # values without addresses; the heap as a list of objects -/
inductive D where
  | non | bl (b : Bool) | int (i : Int) | str (x : Str) | tup (ds : List D) | ref (i : Nat) | fn (i : Nat)
inductive O where
  | lst (ds : List D) | frz (ds : List D) | dic (kvs : List (Key × D)) | dit (kvs : List (List Key × D)) | ins (c : Str) (fs : List (Str × D))
structure X where
  cls : Str
  fs : List (Str × D)
abbrev Hs := List O
/-- an outcome -/
inductive R (α : Type) where
  | val (d : α) (C : Hs) | exc (x : X) (C : Hs) | bad
abbrev RE := R D
abbrev Sl := List (Option D)
inductive RS where
  | nx (s : Sl) (C : Hs) | rt (d : D) (C : Hs) | bk (s : Sl) (C : Hs) | ct (s : Sl) (C : Hs) | exc (x : X) (s : Sl) (C : Hs) | bad
abbrev ME := Sl → Hs → RE
abbrev MS := Sl → Hs → RS
/-- the ground facts: the written part, the module's names, the defs by number -/
structure G where
  K : PySem.W.Frag
  mg : Str → Option Value
  fa : Nat → Option Addr
mutual
inductive RD (g : G) (ph : List Addr) (H : Hp) : D → V → Prop
  | non : RD g ph H .non .non
  | bl (b : Bool) : RD g ph H (.bl b) (.bl b)
  | int (i : Int) : RD g ph H (.int i) (.int i)
  | str (x : Str) : RD g ph H (.str x) (.str x)
  | tup {a : Addr} {vs : List V} {ds : List D} : SqT g.K H a vs → RDs g ph H ds vs → RD g ph H (.tup ds) (.ref a)
  | ref {i : Nat} {a : Addr} : ph[i]? = some a → RD g ph H (.ref i) (.ref a)
  | fn {i : Nat} {a : Addr} : g.fa i = some a → RD g ph H (.fn i) (.ref a)
inductive RDs (g : G) (ph : List Addr) (H : Hp) : List D → List V → Prop
  | nil : RDs g ph H [] []
  | cons {d : D} {v : V} {ds : List D} {vs : List V} : RD g ph H d v → RDs g ph H ds vs → RDs g ph H (d :: ds) (v :: vs)
end
/-- pairs with equal first parts -/
inductive RKv {k : Type} (g : G) (ph : List Addr) (H : Hp) : List (k × D) → List (k × V) → Prop
  | nil : RKv g ph H [] []
  | cons {x : k} {d : D} {v : V} {ds : List (k × D)} {vs : List (k × V)} : RD g ph H d v → RKv g ph H ds vs → RKv g ph H ((x, d) :: ds) ((x, v) :: vs)
/-- a list that nobody changes: locked, or written by the top -/
def FrzL (K : PySem.W.Frag) (H : Hp) (a : Addr) (vs : List V) : Prop :=
  (∃ ob, H a = some (.frz ob (.lst vs))) ∨ ∃ (o : Obj) (its : Array Value) (n : Nat), K.lookup a = some o ∧ o.cls = .type "list" ∧ o.dict = none ∧ o.data = .seq its n ∧ its.size ≤ sizeLine ∧ Vals vs its.toList
theorem FrzL.seq {K : PySem.W.Frag} {H : Hp} {a : Addr} {vs : List V} (h : FrzL K H a vs) : SqL K H a vs := by
  rcases h with ⟨ob, h⟩ | h
  · exact .inl (.inr ⟨ob, h⟩)
  · exact .inr h
def RO (g : G) (ph : List Addr) (H : Hp) (a : Addr) : O → Prop
  | .lst ds => ∃ vs, H a = some (.lst vs) ∧ RDs g ph H ds vs
  | .frz ds => ∃ vs, FrzL g.K H a vs ∧ RDs g ph H ds vs
  | .dic kvs => ∃ kvs', H a = some (.dK kvs') ∧ RKv g ph H kvs kvs'
  | .dit kvs => ∃ kvs', H a = some (.dT kvs') ∧ RKv g ph H kvs kvs'
  | .ins c fs => ∃ (C dx : Addr) (fs' : List (Str × V)), g.mg c = some (.ref C) ∧ H a = some (.ins C dx fs') ∧ RKv g ph H fs fs'
/-- may be written -/
def RW : O → Prop
  | .frz _ => False
  | _ => True
structure Sim (g : G) (ph : List Addr) (C : Hs) (H : Hp) : Prop where
  len : ph.length = C.length
  nd : ∀ (i j : Nat) (a : Addr) (o u : O), ph[i]? = some a → ph[j]? = some a → C[i]? = some o → C[j]? = some u → RW o → RW u → i = j
  obj : ∀ (i : Nat) (o : O), C[i]? = some o → ∃ a, ph[i]? = some a ∧ RO g ph H a o
/-- what stays: tuples -/
def Keep (g : G) (H H' : Hp) : Prop := ∀ b xs, SqT g.K H b xs → SqT g.K H' b xs
theorem Keep.refl {g : G} {H : Hp} : Keep g H H := fun _ _ h => h
theorem Keep.trans {g : G} {H H1 H2 : Hp} (a : Keep g H H1) (b : Keep g H1 H2) : Keep g H H2 := fun c xs h => b c xs (a c xs h)
/-- an object that is no tuple is put anew -/
def NoTup (o : Option HO) : Prop := ∀ xs, o ≠ some (.tup xs) ∧ ∀ ob, o ≠ some (.frz ob (.tup xs))
theorem keep_upd {g : G} {H : Hp} {p : Addr} {o : HO} (h : NoTup (H p)) : Keep g H (upd H p o) := fun b xs q => by
  rcases q with (q | ⟨ob, q⟩) | q
  · refine .inl (.inl ?_)
    rw [upd_ne (fun e => (h xs).1 (by rw [← e]; exact q))]; exact q
  · refine .inl (.inr ⟨ob, ?_⟩)
    rw [upd_ne (fun e => (h xs).2 ob (by rw [← e]; exact q))]; exact q
  · exact .inr q
theorem noTup_none {H : Hp} {p : Addr} (h : H p = none) : NoTup (H p) := fun xs => ⟨by rw [h]; exact fun z => (by cases z), fun ob => by rw [h]; exact fun z => (by cases z)⟩
theorem noTup_lst {H : Hp} {p : Addr} {vs} (h : H p = some (.lst vs)) : NoTup (H p) := fun xs => ⟨by rw [h]; exact fun z => (by cases z), fun ob => by rw [h]; exact fun z => (by cases z)⟩
theorem noTup_dK {H : Hp} {p : Addr} {vs} (h : H p = some (.dK vs)) : NoTup (H p) := fun xs => ⟨by rw [h]; exact fun z => (by cases z), fun ob => by rw [h]; exact fun z => (by cases z)⟩
theorem noTup_dT {H : Hp} {p : Addr} {vs} (h : H p = some (.dT vs)) : NoTup (H p) := fun xs => ⟨by rw [h]; exact fun z => (by cases z), fun ob => by rw [h]; exact fun z => (by cases z)⟩
theorem noTup_ins {H : Hp} {p : Addr} {c d fs} (h : H p = some (.ins c d fs)) : NoTup (H p) := fun xs => ⟨by rw [h]; exact fun z => (by cases z), fun ob => by rw [h]; exact fun z => (by cases z)⟩
/-- a list of addresses grows at its end -/
abbrev Pre (a b : List Addr) : Prop := a <+: b
theorem Pre.get {a b : List Addr} (h : Pre a b) {i : Nat} {x : Addr} (e : a[i]? = some x) : b[i]? = some x := by
  obtain ⟨r, rfl⟩ := h
  have hi : i < a.length := (List.getElem?_eq_some_iff.mp e).1
  rw [List.getElem?_append_left hi]; exact e
mutual
theorem RD.up {g : G} {ph ph' : List Addr} {H H' : Hp} (p : Pre ph ph') (k : Keep g H H') : ∀ {d : D} {v : V}, RD g ph H d v → RD g ph' H' d v
  | _, _, .non => .non
  | _, _, .bl b => .bl b
  | _, _, .int i => .int i
  | _, _, .str x => .str x
  | _, _, .tup h r => .tup (k _ _ h) (RDs.up p k r)
  | _, _, .ref e => .ref (p.get e)
  | _, _, .fn e => .fn e
theorem RDs.up {g : G} {ph ph' : List Addr} {H H' : Hp} (p : Pre ph ph') (k : Keep g H H') : ∀ {ds : List D} {vs : List V}, RDs g ph H ds vs → RDs g ph' H' ds vs
  | _, _, .nil => .nil
  | _, _, .cons a b => .cons (RD.up p k a) (RDs.up p k b)
end
theorem RKv.up {k : Type} {g : G} {ph ph' : List Addr} {H H' : Hp} (p : Pre ph ph') (kp : Keep g H H') : ∀ {ds : List (k × D)} {vs : List (k × V)}, RKv g ph H ds vs → RKv g ph' H' ds vs
  | _, _, .nil => .nil
  | _, _, .cons a b => .cons (a.up p kp) (RKv.up p kp b)
theorem RDs.length {g : G} {ph : List Addr} {H : Hp} : ∀ {ds : List D} {vs : List V}, RDs g ph H ds vs → ds.length = vs.length
  | _, _, .nil => rfl
  | _, _, .cons _ b => by rw [List.length_cons, List.length_cons, RDs.length b]
theorem RDs.get {g : G} {ph : List Addr} {H : Hp} : ∀ {ds : List D} {vs : List V} {i : Nat} {d : D}, RDs g ph H ds vs → ds[i]? = some d → ∃ v, vs[i]? = some v ∧ RD g ph H d v
  | _, _, _, _, .nil, e => by simp at e
  | _, _, 0, _, .cons a _, e => by simp at e; subst e; exact ⟨_, rfl, a⟩
  | _, _, i + 1, d, .cons _ b, e => by
    obtain ⟨v, h, r⟩ := RDs.get (i := i) (d := d) b (by simpa using e)
    exact ⟨v, by simpa using h, r⟩
theorem RDs.append {g : G} {ph : List Addr} {H : Hp} : ∀ {ds ds' : List D} {vs vs' : List V}, RDs g ph H ds vs → RDs g ph H ds' vs' → RDs g ph H (ds ++ ds') (vs ++ vs')
  | _, _, _, _, .nil, r => r
  | _, _, _, _, .cons a b, r => .cons a (RDs.append b r)
theorem RDs.take {g : G} {ph : List Addr} {H : Hp} : ∀ {ds : List D} {vs : List V} (n : Nat), RDs g ph H ds vs → RDs g ph H (ds.take n) (vs.take n)
  | _, _, 0, _ => .nil
  | _, _, _ + 1, .nil => .nil
  | _, _, n + 1, .cons a b => .cons a (RDs.take n b)
theorem RDs.drop {g : G} {ph : List Addr} {H : Hp} : ∀ {ds : List D} {vs : List V} (n : Nat), RDs g ph H ds vs → RDs g ph H (ds.drop n) (vs.drop n)
  | _, _, 0, r => r
  | _, _, _ + 1, .nil => .nil
  | _, _, n + 1, .cons _ b => RDs.drop n b
theorem RDs.set {g : G} {ph : List Addr} {H : Hp} {d : D} {v : V} (r : RD g ph H d v) : ∀ {ds : List D} {vs : List V} (i : Nat), RDs g ph H ds vs → RDs g ph H (ds.set i d) (vs.set i v)
  | _, _, _, .nil => .nil
  | _, _, 0, .cons _ b => .cons r b
  | _, _, i + 1, .cons a b => .cons a (RDs.set r i b)
theorem RDs.nil_iff {g : G} {ph : List Addr} {H : Hp} {ds : List D} {vs : List V} (r : RDs g ph H ds vs) : vs = [] ↔ ds = [] := by cases r <;> simp
theorem RDs.isEmpty {g : G} {ph : List Addr} {H : Hp} {ds : List D} {vs : List V} (r : RDs g ph H ds vs) : vs.isEmpty = ds.isEmpty := by cases r <;> simp
theorem RDs.dropLast {g : G} {ph : List Addr} {H : Hp} : ∀ {ds : List D} {vs : List V}, RDs g ph H ds vs → RDs g ph H ds.dropLast vs.dropLast
  | _, _, .nil => .nil
  | _, _, .cons a .nil => .nil
  | _, _, .cons a (.cons b c) => .cons a (RDs.dropLast (.cons b c))
theorem RDs.reverse {g : G} {ph : List Addr} {H : Hp} : ∀ {ds : List D} {vs : List V}, RDs g ph H ds vs → RDs g ph H ds.reverse vs.reverse
  | _, _, .nil => .nil
  | _, _, .cons a b => by rw [List.reverse_cons, List.reverse_cons]; exact (RDs.reverse b).append (.cons a .nil)
theorem RDs.ints {g : G} {ph : List Addr} {H : Hp} : ∀ {ns : List Int} {vs : List V}, RDs g ph H (ns.map D.int) vs → vs = ns.map V.int
  | [], _, .nil => rfl
  | n :: ns, _, .cons a b => by
    cases a
    rw [RDs.ints b]; rfl
theorem RDs.of_ints {g : G} {ph : List Addr} {H : Hp} : ∀ (ns : List Int), RDs g ph H (ns.map D.int) (ns.map V.int)
  | [] => .nil
  | n :: ns => .cons (.int n) (RDs.of_ints ns)

theorem RO.up {g : G} {ph ph' : List Addr} {H H' : Hp} {a : Addr} {o : O} (p : Pre ph ph') (k : Keep g H H') (e : H' a = H a) (r : RO g ph H a o) : RO g ph' H' a o := by
  cases o with
  | lst ds => obtain ⟨vs, h, r⟩ := r; exact ⟨vs, e.trans h, r.up p k⟩
  | frz ds =>
    obtain ⟨vs, h, r⟩ := r
    refine ⟨vs, ?_, r.up p k⟩
    rcases h with ⟨ob, h⟩ | h
    · exact .inl ⟨ob, e.trans h⟩
    · exact .inr h
  | dic ds => obtain ⟨vs, h, r⟩ := r; exact ⟨vs, e.trans h, r.up p k⟩
  | dit ds => obtain ⟨vs, h, r⟩ := r; exact ⟨vs, e.trans h, r.up p k⟩
  | ins c fs => obtain ⟨C, dx, fs', h1, h, r⟩ := r; exact ⟨C, dx, fs', h1, e.trans h, r.up p k⟩
/-- what stands at a writable object's address -/
theorem RO.wr {g : G} {ph : List Addr} {H : Hp} {a : Addr} {o : O} (w : RW o) (r : RO g ph H a o) : NoTup (H a) ∧ (∀ ob u, H a ≠ some (.frz ob u)) ∧ H a ≠ none := by
  cases o with
  | lst ds => obtain ⟨vs, e, _⟩ := r; exact ⟨noTup_lst e, fun ob u z => (by rw [e] at z; cases z), fun z => (by rw [e] at z; cases z)⟩
  | frz ds => exact w.elim
  | dic ds => obtain ⟨vs, e, _⟩ := r; exact ⟨noTup_dK e, fun ob u z => (by rw [e] at z; cases z), fun z => (by rw [e] at z; cases z)⟩
  | dit ds => obtain ⟨vs, e, _⟩ := r; exact ⟨noTup_dT e, fun ob u z => (by rw [e] at z; cases z), fun z => (by rw [e] at z; cases z)⟩
  | ins c fs => obtain ⟨C, dx, fs', _, e, _⟩ := r; exact ⟨noTup_ins e, fun ob u z => (by rw [e] at z; cases z), fun z => (by rw [e] at z; cases z)⟩
theorem FrzL.upd {K : PySem.W.Frag} {H : Hp} {a p : Addr} {vs : List V} {ho : HO} (n : ∀ ob u, H p ≠ some (.frz ob u)) (h : FrzL K H a vs) : FrzL K (upd H p ho) a vs := by
  rcases h with ⟨ob, h⟩ | h
  · have ne : a ≠ p := fun e => n ob _ (by rw [← e]; exact h)
    exact .inl ⟨ob, (upd_ne ne).trans h⟩
  · exact .inr h
/-- an address that bears nothing of ours is written: by its being free -/
theorem RO.fresh {g : G} {ph : List Addr} {H : Hp} {a p : Addr} {o : O} {ho : HO} (hp : H p = none) (r : RO g ph H a o) : RO g ph (upd H p ho) a o := by
  by_cases ea : a = p
  · subst ea
    cases o with
    | frz ds =>
      obtain ⟨vs, h, r⟩ := r
      exact ⟨vs, h.upd (fun ob u z => by rw [hp] at z; cases z), r.up List.prefix_rfl (keep_upd (noTup_none hp))⟩
    | lst ds => exact ((r.wr (by trivial)).2.2 hp).elim
    | dic ds => exact ((r.wr (by trivial)).2.2 hp).elim
    | dit ds => exact ((r.wr (by trivial)).2.2 hp).elim
    | ins c fs => exact ((r.wr (by trivial)).2.2 hp).elim
  · exact r.up List.prefix_rfl (keep_upd (noTup_none hp)) (upd_ne ea)
theorem Sim.fresh {g : G} {ph : List Addr} {C : Hs} {H : Hp} {p : Addr} {ho : HO} (S : Sim g ph C H) (hp : H p = none) : Sim g ph C (upd H p ho) :=
  ⟨S.len, S.nd, fun i o h => by obtain ⟨a, e, r⟩ := S.obj i o h; exact ⟨a, e, r.fresh hp⟩⟩
theorem Sim.get {g : G} {ph : List Addr} {C : Hs} {H : Hp} (S : Sim g ph C H) {i : Nat} {a : Addr} {o : O} (e : ph[i]? = some a) (h : C[i]? = some o) : RO g ph H a o := by
  obtain ⟨b, e', r⟩ := S.obj i o h
  rw [e] at e'; cases e'; exact r
theorem get_snoc {α : Type} {l : List α} {x y : α} {i : Nat} (h : (l ++ [x])[i]? = some y) : l[i]? = some y ∨ (i = l.length ∧ y = x) := by
  by_cases hi : i < l.length
  · rw [List.getElem?_append_left hi] at h; exact .inl h
  · rw [List.getElem?_append_right (by omega)] at h
    have : i - l.length = 0 := by
      by_cases z : i - l.length = 0
      · exact z
      · rw [List.getElem?_eq_none (by simp; omega)] at h; cases h
    rw [this] at h
    exact .inr ⟨by omega, by simpa using h.symm⟩
/-- a new object of ours -/
theorem Sim.new {g : G} {ph : List Addr} {C : Hs} {H : Hp} {p : Addr} {ho : HO} {o : O} (S : Sim g ph C H) (hp : H p = none) (r : RO g (ph ++ [p]) (upd H p ho) p o) : Sim g (ph ++ [p]) (C ++ [o]) (upd H p ho) := by
  have pre : Pre ph (ph ++ [p]) := List.prefix_append _ _
  have lt : ∀ {i : Nat} {u : O}, C[i]? = some u → i < ph.length := fun h => by rw [S.len]; exact (List.getElem?_eq_some_iff.mp h).1
  have old : ∀ {i : Nat} {u : O}, C[i]? = some u → (ph ++ [p])[i]? = some p → ¬ RW u := fun {i u} h e w => by
    rw [List.getElem?_append_left (lt h)] at e
    exact ((S.get e h).wr w).2.2 hp
  refine ⟨by simp [S.len], fun i j a u v e1 e2 h1 h2 w1 w2 => ?_, fun i u h => ?_⟩
  · rcases get_snoc h1 with h1' | ⟨i1, rfl⟩ <;> rcases get_snoc h2 with h2' | ⟨i2, rfl⟩
    · rw [List.getElem?_append_left (lt h1')] at e1
      rw [List.getElem?_append_left (lt h2')] at e2
      exact S.nd i j a u v e1 e2 h1' h2' w1 w2
    · have ea : a = p := by
        rw [i2, ← S.len] at e2; simp at e2; exact e2.symm
      subst ea
      exact (old h1' e1 w1).elim
    · have ea : a = p := by
        rw [i1, ← S.len] at e1; simp at e1; exact e1.symm
      subst ea
      exact (old h2' e2 w2).elim
    · omega
  · rcases get_snoc h with h | ⟨i1, rfl⟩
    · obtain ⟨a, e, q⟩ := S.obj i u h
      exact ⟨a, pre.get e, (q.fresh hp).up pre Keep.refl rfl⟩
    · exact ⟨p, by rw [i1, ← S.len]; simp, r⟩
/-- an object of ours is changed -/
theorem Sim.set {g : G} {ph : List Addr} {C : Hs} {H : Hp} {i : Nat} {a : Addr} {ho : HO} {o o' : O} (S : Sim g ph C H) (e : ph[i]? = some a) (h : C[i]? = some o) (w : RW o) (w' : RW o') (r : RO g ph (upd H a ho) a o') : Sim g ph (C.set i o') (upd H a ho) := by
  have q := S.get e h
  obtain ⟨nt, nf, nn⟩ := q.wr w
  have hi : i < C.length := (List.getElem?_eq_some_iff.mp h).1
  have same : ∀ {j : Nat} {u : O}, (C.set i o')[j]? = some u → (j = i ∧ u = o') ∨ (j ≠ i ∧ C[j]? = some u) := fun {j u} z => by
    by_cases hj : j = i
    · subst hj
      rw [List.getElem?_set_self hi] at z
      exact .inl ⟨rfl, (Option.some.inj z).symm⟩
    · rw [List.getElem?_set_ne (Ne.symm hj)] at z
      exact .inr ⟨hj, z⟩
  refine ⟨by simp [S.len], fun j k b u v e1 e2 h1 h2 w1 w2 => ?_, fun j u z => ?_⟩
  · rcases same h1 with ⟨j1, rfl⟩ | ⟨j1, h1'⟩ <;> rcases same h2 with ⟨k1, rfl⟩ | ⟨k1, h2'⟩
    · omega
    · subst j1
      exact S.nd _ _ _ _ _ e1 e2 h h2' w w2
    · subst k1
      exact S.nd _ _ _ _ _ e1 e2 h1' h w1 w
    · exact S.nd _ _ _ _ _ e1 e2 h1' h2' w1 w2
  · rcases same z with ⟨j1, rfl⟩ | ⟨j1, z⟩
    · subst j1; exact ⟨a, e, r⟩
    · obtain ⟨b, e2, r2⟩ := S.obj j u z
      refine ⟨b, e2, ?_⟩
      by_cases hb : b = a
      · subst hb
        have nw : ¬ RW u := fun w2 => j1 (S.nd _ _ _ _ _ e2 e z h w2 w)
        cases u with
        | frz ds =>
          obtain ⟨vs, f, rr⟩ := r2
          exact ⟨vs, f.upd nf, rr.up List.prefix_rfl (keep_upd nt)⟩
        | lst ds => exact (nw trivial).elim
        | dic ds => exact (nw trivial).elim
        | dit ds => exact (nw trivial).elim
        | ins c fs => exact (nw trivial).elim
      · exact r2.up List.prefix_rfl (keep_upd nt) (upd_ne hb)
theorem Sim.keep {g : G} {ph : List Addr} {C : Hs} {H : Hp} {i : Nat} {a : Addr} {ho : HO} {o : O} (S : Sim g ph C H) (e : ph[i]? = some a) (h : C[i]? = some o) (w : RW o) : Keep g H (upd H a ho) := keep_upd ((S.get e h).wr w).1

/-! # slots -/
def SR (g : G) (ph : List Addr) (H : Hp) (s : Sl) (σ : L2.St) : Prop := s.length = σ.length ∧ ∀ (i : Nat) (d : D), s[i]? = some (some d) → ∃ v, σ[i]? = some (some v) ∧ RD g ph H d v
theorem SR.up {g : G} {ph ph' : List Addr} {H H' : Hp} {s : Sl} {σ : L2.St} (p : Pre ph ph') (k : Keep g H H') (r : SR g ph H s σ) : SR g ph' H' s σ :=
  ⟨r.1, fun i d h => by obtain ⟨v, e, q⟩ := r.2 i d h; exact ⟨v, e, q.up p k⟩⟩
theorem SR.set {g : G} {ph : List Addr} {H : Hp} {s : Sl} {σ : L2.St} (i : Nat) {d : D} {v : V} (r : SR g ph H s σ) (q : RD g ph H d v) : SR g ph H (s.set i (some d)) (σ.set i (some v)) := by
  refine ⟨by simp [r.1], fun j e h => ?_⟩
  by_cases hj : j = i
  · subst hj
    by_cases hl : j < s.length
    · rw [List.getElem?_set_self hl] at h
      cases h
      exact ⟨v, by rw [List.getElem?_set_self (by rw [← r.1]; exact hl)], q⟩
    · rw [List.getElem?_eq_none (by simpa using hl)] at h; cases h
  · rw [List.getElem?_set_ne (Ne.symm hj)] at h ⊢
    exact r.2 j e h
theorem SR.unset {g : G} {ph : List Addr} {H : Hp} {s : Sl} {σ : L2.St} (i : Nat) (r : SR g ph H s σ) : SR g ph H (s.set i none) (σ.set i none) := by
  refine ⟨by simp [r.1], fun j e h => ?_⟩
  by_cases hj : j = i
  · subst hj
    by_cases hl : j < s.length
    · rw [List.getElem?_set_self hl] at h
      cases h
    · rw [List.getElem?_eq_none (by simpa using hl)] at h; cases h
  · rw [List.getElem?_set_ne (Ne.symm hj)] at h ⊢
    exact r.2 j e h

/-! # outcomes -/
/-- an exception of ours -/
def XR (g : G) (ph : List Addr) (H : Hp) (x : X) (cls : Value) (dd : Option Addr) : Prop :=
  ∃ C, g.mg x.cls = some (.ref C) ∧ cls = .ref C ∧ (x.fs ≠ [] → ∃ d fs', dd = some d ∧ H d = some (.xd fs') ∧ RKv g ph H x.fs fs')
def Run {α β : Type} (rel : List Addr → Hp → α → β → Prop) (g : G) (W : XK) (ph : List Addr) (H : Hp) (r : R α) (Q : β → Hp → Prop) : Prop :=
  match r with
  | .val d C => ∀ v H' ph', Pre ph ph' → Keep g H H' → Sim g ph' C H' → rel ph' H' d v → Q v H'
  | .exc x C => ∀ cls dd H' ph', Pre ph ph' → Keep g H H' → Sim g ph' C H' → XR g ph' H' x cls dd → W cls dd H'
  | .bad => False
abbrev RunE (g : G) (W : XK) (ph : List Addr) (H : Hp) (r : R D) (Q : VK) : Prop := Run (fun p h d v => RD g p h d v) g W ph H r Q
abbrev RunL (g : G) (W : XK) (ph : List Addr) (H : Hp) (r : R (List D)) (Q : List V → Hp → Prop) : Prop := Run (fun p h d v => RDs g p h d v) g W ph H r Q
abbrev RunB (g : G) (W : XK) (ph : List Addr) (H : Hp) (r : R Bool) (Q : Bool → Hp → Prop) : Prop := Run (fun _ _ d v => d = v) g W ph H r Q
def R.bind {α β : Type} (r : R α) (k : α → Hs → R β) : R β :=
  match r with
  | .val d C => k d C
  | .exc x C => .exc x C
  | .bad => .bad
section
variable {α β γ δ : Type} {rel : List Addr → Hp → α → β → Prop} {rel' : List Addr → Hp → γ → δ → Prop} {g : G} {W : XK} {ph ph' : List Addr} {H H' : Hp}
theorem run_up {r : R α} {Q : β → Hp → Prop} (p : Pre ph ph') (k : Keep g H H') (h : Run rel g W ph H r Q) : Run rel g W ph' H' r Q := by
  cases r with
  | val d C => exact fun v H2 ph2 p2 k2 => h v H2 ph2 (p.trans p2) (k.trans k2)
  | exc x C => exact fun c d H2 ph2 p2 k2 => h c d H2 ph2 (p.trans p2) (k.trans k2)
  | bad => exact h
theorem run_bind {r : R γ} {k : γ → Hs → R α} {Q : β → Hp → Prop} {Q' : δ → Hp → Prop} (h : Run rel g W ph H (r.bind k) Q)
    (f : ∀ v H' ph' d C, Pre ph ph' → Keep g H H' → Sim g ph' C H' → rel' ph' H' d v → Run rel g W ph' H' (k d C) Q → Q' v H') : Run rel' g W ph H r Q' := by
  cases r with
  | val d C => exact fun v H' ph' p kp S R => f v H' ph' d C p kp S R (run_up p kp h)
  | exc x C => exact h
  | bad => exact h
theorem run_val {d : α} {C : Hs} {Q : β → Hp → Prop} {v : β} (h : Run rel g W ph H (.val d C) Q) (S : Sim g ph C H) (r : rel ph H d v) : Q v H := h v H ph List.prefix_rfl Keep.refl S r
end
theorem run_alloc {g : G} {W : XK} {ph : List Addr} {H : Hp} {C : Hs} {o : O} {Q : VK} {p : Addr} {ho : HO} (h : RunE g W ph H (.val (.ref C.length) (C ++ [o])) Q) (S : Sim g ph C H) (hp : H p = none) (r : RO g (ph ++ [p]) (upd H p ho) p o) : Q (.ref p) (upd H p ho) :=
  h (.ref p) (upd H p ho) (ph ++ [p]) (List.prefix_append _ _) (keep_upd (noTup_none hp)) (S.new hp r) (.ref (by rw [← S.len]; simp))
/-- a new tuple -/
theorem run_tup {g : G} {W : XK} {ph : List Addr} {H : Hp} {C : Hs} {ds : List D} {vs : List V} {Q : VK} {p : Addr} (h : RunE g W ph H (.val (.tup ds) C) Q) (S : Sim g ph C H) (hp : H p = none) (r : RDs g ph H ds vs) : Q (.ref p) (upd H p (.tup vs)) :=
  h (.ref p) _ ph List.prefix_rfl (keep_upd (noTup_none hp)) (S.fresh hp) (.tup (SqT.of upd_same) (r.up List.prefix_rfl (keep_upd (noTup_none hp))))
theorem run_set {g : G} {W : XK} {ph : List Addr} {H : Hp} {C : Hs} {i : Nat} {a : Addr} {o o' : O} {d : D} {v : V} {Q : VK} {ho : HO} (h : RunE g W ph H (.val d (C.set i o')) Q) (S : Sim g ph C H) (e : ph[i]? = some a) (hi : C[i]? = some o) (w : RW o) (w' : RW o')
    (r : Keep g H (upd H a ho) → RO g ph (upd H a ho) a o') (rd : Keep g H (upd H a ho) → RD g ph (upd H a ho) d v) : Q v (upd H a ho) := by
  have k := S.keep (ho := ho) e hi w
  exact h v _ ph List.prefix_rfl k (S.set e hi w w' (r k)) (rd k)

/-- a statement's outcome -/
def RunS (g : G) (W : WX) (ph : List Addr) (H : Hp) (r : RS) (D : Ends) : Prop :=
  match r with
  | .nx s C => ∀ σ' H' ph', Pre ph ph' → Keep g H H' → Sim g ph' C H' → SR g ph' H' s σ' → D.nx σ' H'
  | .bk s C => ∀ σ' H' ph', Pre ph ph' → Keep g H H' → Sim g ph' C H' → SR g ph' H' s σ' → D.bk σ' H'
  | .ct s C => ∀ σ' H' ph', Pre ph ph' → Keep g H H' → Sim g ph' C H' → SR g ph' H' s σ' → D.ct σ' H'
  | .rt d C => ∀ v H' ph', Pre ph ph' → Keep g H H' → Sim g ph' C H' → RD g ph' H' d v → D.rt v H'
  | .exc x s C => ∀ cls dd σ' H' ph', Pre ph ph' → Keep g H H' → Sim g ph' C H' → SR g ph' H' s σ' → XR g ph' H' x cls dd → W cls dd σ' H'
  | .bad => False
theorem runS_up {g : G} {W : WX} {ph ph' : List Addr} {H H' : Hp} {r : RS} {D : Ends} (p : Pre ph ph') (k : Keep g H H') (h : RunS g W ph H r D) : RunS g W ph' H' r D := by
  cases r with
  | nx s C => exact fun σ' H2 ph2 p2 k2 => h σ' H2 ph2 (p.trans p2) (k.trans k2)
  | bk s C => exact fun σ' H2 ph2 p2 k2 => h σ' H2 ph2 (p.trans p2) (k.trans k2)
  | ct s C => exact fun σ' H2 ph2 p2 k2 => h σ' H2 ph2 (p.trans p2) (k.trans k2)
  | rt d C => exact fun v H2 ph2 p2 k2 => h v H2 ph2 (p.trans p2) (k.trans k2)
  | exc x s C => exact fun c d σ' H2 ph2 p2 k2 => h c d σ' H2 ph2 (p.trans p2) (k.trans k2)
  | bad => exact h
def R.stm {α : Type} (r : R α) (s : Sl) (k : α → Hs → RS) : RS :=
  match r with
  | .val d C => k d C
  | .exc x C => .exc x s C
  | .bad => .bad
theorem run_stm {α β : Type} {rel : List Addr → Hp → α → β → Prop} {g : G} {W : WX} {ph : List Addr} {H : Hp} {r : R α} {s : Sl} {σ : L2.St} {k : α → Hs → RS} {D : Ends} {Q' : β → Hp → Prop} (h : RunS g W ph H (r.stm s k) D) (R : SR g ph H s σ)
    (f : ∀ v H' ph' d C, Pre ph ph' → Keep g H H' → Sim g ph' C H' → SR g ph' H' s σ → rel ph' H' d v → RunS g W ph' H' (k d C) D → Q' v H') : Run rel g (fun c d H' => W c d σ H') ph H r Q' := by
  cases r with
  | val d C => exact fun v H' ph' p kp S rl => f v H' ph' d C p kp S (R.up p kp) rl (runS_up p kp h)
  | exc x C => exact fun c d H' ph' p kp S xr => h c d σ H' ph' p kp S (R.up p kp) xr
  | bad => exact h
def RS.seq (r : RS) (k : Sl → Hs → RS) : RS :=
  match r with
  | .nx s C => k s C
  | r => r
end Mp
namespace Mp
open PySem PySem.Spec PyProof.Rows L2
/-! # the judgements -/
abbrev MB := Sl → Hs → R Bool
abbrev ML := Sl → Hs → R (List D)
def tJ (g : G) (W : WX) (m : ME) : TE := fun σ H Q => ∃ ph s C, Sim g ph C H ∧ SR g ph H s σ ∧ RunE g (fun c d H' => W c d σ H') ph H (m s C) Q
def tB (g : G) (W : WX) (m : MB) : TT := fun σ H Q => ∃ ph s C, Sim g ph C H ∧ SR g ph H s σ ∧ RunB g (fun c d H' => W c d σ H') ph H (m s C) Q
def tL (g : G) (W : WX) (m : ML) : TA := fun σ H Q => ∃ ph s C, Sim g ph C H ∧ SR g ph H s σ ∧ RunL g (fun c d H' => W c d σ H') ph H (m s C) Q
def tS (g : G) (W : WX) (m : MS) : TS := fun D σ H => ∃ ph s C, Sim g ph C H ∧ SR g ph H s σ ∧ RunS g W ph H (m s C) D
abbrev JE (g : G) (W : WX) (X : Cx) (e : Expr) (m : ME) : Prop := PE X e (tJ g W m)
abbrev JB (g : G) (W : WX) (X : Cx) (e : Expr) (m : MB) : Prop := PT X e (tB g W m)
abbrev JW (g : G) (W : WX) (X : Cx) (e : Expr) (m : MB) : Prop := PW X e (tB g W m)
abbrev JL (g : G) (W : WX) (X : Cx) (es : List Expr) (m : ML) : Prop := PA X es (tL g W m)
abbrev JS (g : G) (W : WX) (X : Cx) (st : Stmt) (m : MS) : Prop := PS X st (tS g W m)
abbrev JSs (g : G) (W : WX) (X : Cx) (st : List Stmt) (m : MS) : Prop := PSs X st (tS g W m)
theorem PE.imp {X : Cx} {e : Expr} {t t' : TE} (h : PE X e t) (f : ∀ σ H Q, t' σ H Q → t σ H Q) : PE X e t' := ⟨fun pins s σ H Q I q => h.run pins s σ H Q I (f σ H Q q)⟩
theorem PT.imp {X : Cx} {e : Expr} {t t' : TT} (h : PT X e t) (f : ∀ σ H Q, t' σ H Q → t σ H Q) : PT X e t' := ⟨fun pins s σ H Q I q => h.run pins s σ H Q I (f σ H Q q)⟩
theorem PW.imp {X : Cx} {e : Expr} {t t' : TT} (h : PW X e t) (f : ∀ σ H Q, t' σ H Q → t σ H Q) : PW X e t' := ⟨fun wh pins s σ H Q I q => h.run wh pins s σ H Q I (f σ H Q q)⟩
theorem PA.imp {X : Cx} {e : List Expr} {t t' : TA} (h : PA X e t) (f : ∀ σ H Q, t' σ H Q → t σ H Q) : PA X e t' := ⟨fun pos pins s σ H Q I q => h.run pos pins s σ H Q I (f σ H Q q)⟩
theorem PS.imp {X : Cx} {e : Stmt} {t t' : TS} (h : PS X e t) (f : ∀ D σ H, t' D σ H → t D σ H) : PS X e t' := ⟨fun pins s σ H D I q => h.run pins s σ H D I (f D σ H q)⟩
theorem PSs.imp {X : Cx} {e : List Stmt} {t t' : TS} (h : PSs X e t) (f : ∀ D σ H, t' D σ H → t D σ H) : PSs X e t' := ⟨fun pins s σ H D I q => h.run pins s σ H D I (f D σ H q)⟩

/-! # names, constants -/
def eVar (i : Nat) : ME := fun s C => match s[i]? with | some (some d) => .val d C | _ => .bad
def eC (d : D) : ME := fun _ C => .val d C
section
variable {g : G} {W : WX} {X : Cx} {pos : Pos}
theorem j_var (i : Nat) {x : Str} (hN : X.N[i]? = some x) (hv : Vis X.env.scope x) (hd : (x == ("__debug__" : Str)) = false := by decide) (hcd : (x == ("__classdict__" : Str)) = false := by decide) : JE g W X (.Name x pos) (eVar i) :=
  PE.imp (pe_var hN hv hd hcd) fun σ H Q ⟨ph, s, C, S, R, h⟩ => by
    unfold eVar at h
    split at h
    · next d e =>
      obtain ⟨v, e2, r⟩ := R.2 i d e
      exact ⟨v, e2, run_val h S r⟩
    · exact h.elim
theorem j_int {i : Int} {j} : JE g W X (.Constant (.int i) j pos) (eC (.int i)) := PE.imp pe_int fun σ H Q ⟨ph, s, C, S, R, h⟩ => run_val h S (.int i)
theorem j_bl {b : Bool} {j} : JE g W X (.Constant (.bool b) j pos) (eC (.bl b)) := PE.imp pe_bl fun σ H Q ⟨ph, s, C, S, R, h⟩ => run_val h S (.bl b)
theorem j_non {j} : JE g W X (.Constant .none j pos) (eC .non) := PE.imp pe_non fun σ H Q ⟨ph, s, C, S, R, h⟩ => run_val h S .non
theorem j_str {x : Str} {j} : JE g W X (.Constant (.str x) j pos) (eC (.str x)) := PE.imp pe_str fun σ H Q ⟨ph, s, C, S, R, h⟩ => run_val h S (.str x)
/-- a value of the module's top -/
def GV (g : G) (x : Str) (d : D) : Prop := ∃ v u, g.mg x = some u ∧ RelV v u ∧ ∀ ph H, RD g ph H d v
theorem j_glob {x : Str} {d : D} (hg : Gl X x) (gv : GV g x d) (hM : X.mg = g.mg := by rfl) (hd : (x == ("__debug__" : Str)) = false := by decide) : JE g W X (.Name x pos) (eC d) := by
  obtain ⟨v, u, h1, h2, h3⟩ := gv
  rw [← hM] at h1
  exact PE.imp (pe_glob hg h1 h2 hd) fun σ H Q ⟨ph, s, C, S, R, h⟩ => run_val h S (h3 ph H)

/-! # operators -/
def eBin (f : D → D → Hs → R D) (a b : ME) : ME := fun s C => (a s C).bind fun x C1 => (b s C1).bind fun y C2 => f x y C2
def eUn (f : D → Hs → R D) (a : ME) : ME := fun s C => (a s C).bind f
/-- a rule of two values is met -/
def S2 (g : G) (f : D → D → Hs → R D) (r : R2) : Prop := ∀ (ph : List Addr) (C : Hs) (H : Hp) (x y : D) (v w : V) (Q : VK) (E : XK), Sim g ph C H → RD g ph H x v → RD g ph H y w → RunE g E ph H (f x y C) Q → r v w H Q
def S1 (g : G) (f : D → Hs → R D) (r : V → Hp → VK → Prop) : Prop := ∀ (ph : List Addr) (C : Hs) (H : Hp) (x : D) (v : V) (Q : VK) (E : XK), Sim g ph C H → RD g ph H x v → RunE g E ph H (f x C) Q → r v H Q
theorem bin_reads {f : D → D → Hs → R D} {r : R2} {ma mb : ME} (hs : S2 g f r) {σ : L2.St} {H : Hp} {Q : VK} (q : tJ g W (eBin f ma mb) σ H Q) : tOp r (tJ g W ma) (tJ g W mb) σ H Q := by
  obtain ⟨ph, s, C, S, R, h⟩ := q
  refine ⟨ph, s, C, S, R, run_bind h fun v H1 ph1 d C1 p k S1 r1 h1 => ?_⟩
  refine ⟨ph1, s, C1, S1, R.up p k, run_bind h1 fun w H2 ph2 e C2 p2 k2 S2 r2 h2 => ?_⟩
  exact hs ph2 C2 H2 d e v w Q _ S2 (r1.up p2 k2) r2 h2
theorem j_bin {op : Operator} {r : R2} {f : D → D → Hs → R D} {a b : Expr} {ma mb : ME} (ho : OpR X (binaryOp op) r) (hs : S2 g f r) (ha : JE g W X a ma) (hb : JE g W X b mb) : JE g W X (.BinOp a op b pos) (eBin f ma mb) :=
  PE.imp (pe_op ho ha hb) fun σ H Q q => bin_reads hs q
theorem j_un {op : UnaryOp} {r : V → Hp → VK → Prop} {f : D → Hs → R D} {a : Expr} {ma : ME} (ho : UnR X (unaryOp op) r) (hs : S1 g f r) (ha : JE g W X a ma) : JE g W X (.UnaryOp op a pos) (eUn f ma) :=
  PE.imp (pe_un ho ha) fun σ H Q ⟨ph, s, C, S, R, h⟩ => ⟨ph, s, C, S, R, run_bind h fun v H1 ph1 d C1 p k S1 r1 h1 => hs ph1 C1 H1 d v Q _ S1 r1 h1⟩
theorem j_cmp {op : CmpOp} {r : R2} {f : D → D → Hs → R D} {a b : Expr} {ma mb : ME} (ho : OpR X (compareOp op) r) (hs : S2 g f r) (ha : JE g W X a ma) (hb : JE g W X b mb) (hm : behindInMarks op b = false) : JE g W X (.Compare a [op] [b] pos) (eBin f ma mb) :=
  PE.imp (pe_cmpR ho ha hb hm) fun σ H Q q => bin_reads hs q
/-- a value that is a truth -/
def toB (m : ME) : MB := fun s C => (m s C).bind fun d C => match d with | .bl b => .val b C | _ => .bad
theorem toB_reads {m : ME} {σ : L2.St} {H : Hp} {Q : Bool → Hp → Prop} (q : tB g W (toB m) σ H Q) : tJ g W m σ H fun x H1 => ∃ c, x = .bl c ∧ Q c H1 := by
  obtain ⟨ph, s, C, S, R, h⟩ := q
  refine ⟨ph, s, C, S, R, run_bind h fun v H1 ph1 d C1 p k S1 r1 h1 => ?_⟩
  cases d with
  | bl b => cases r1; exact ⟨b, rfl, run_val h1 S1 rfl⟩
  | non => exact h1.elim
  | int _ => exact h1.elim
  | str _ => exact h1.elim
  | tup _ => exact h1.elim
  | ref _ => exact h1.elim
  | fn _ => exact h1.elim
theorem b_cmp {op : CmpOp} {r : R2} {f : D → D → Hs → R D} {a b : Expr} {ma mb : ME} (ho : OpR X (compareOp op) r) (hs : S2 g f r) (ha : JE g W X a ma) (hb : JE g W X b mb) (hm : behindInMarks op b = false) : JB g W X (.Compare a [op] [b] pos) (toB (eBin f ma mb)) :=
  PT.imp (pt_cmpR ho ha hb hm) fun σ H Q q => bin_reads hs (toB_reads q)
/-- an expression whose value is a bool, as a test -/
theorem b_val {e : Expr} {m : ME} (h : JE g W X e m) (he : ∀ whole, isTrue e X.env whole = (do let v ← whole; standAt e.pos; holding [v] (truthy v)) := by intro _; rfl) : JB g W X e (toB m) :=
  PT.imp (pt_val h he) fun σ H Q q => toB_reads q
def eChain (f f' : D → D → Hs → R D) (a b c : ME) : ME := fun s C => (a s C).bind fun x C1 => (b s C1).bind fun y C2 => (f x y C2).bind fun z C3 => match z with
  | .bl true => (c s C3).bind fun w C4 => f' y w C4
  | .bl false => .val (.bl false) C3
  | _ => .bad
theorem chain_reads {f f' : D → D → Hs → R D} {r r' : R2} {ma mb mc : ME} (hs : S2 g f r) (hs' : S2 g f' r') {σ : L2.St} {H : Hp} {Q : VK} (q : tJ g W (eChain f f' ma mb mc) σ H Q) : tChain r r' (tJ g W ma) (tJ g W mb) (tJ g W mc) σ H Q := by
  obtain ⟨ph, s, C, S, R, h⟩ := q
  refine ⟨ph, s, C, S, R, run_bind h fun v H1 ph1 d C1 p k S1 r1 h1 => ?_⟩
  refine ⟨ph1, s, C1, S1, R.up p k, run_bind h1 fun w H2 ph2 e C2 p2 k2 S2 r2 h2 => ?_⟩
  refine hs ph2 C2 H2 d e v w _ (fun c d H' => W c d σ H') S2 (r1.up p2 k2) r2 (run_bind h2 fun z H3 ph3 u C3 p3 k3 S3 r3 h3 => ?_)
  cases u with
  | bl b =>
    cases r3
    refine ⟨b, rfl, ?_⟩
    cases b with
    | true =>
      rw [if_pos rfl]
      refine ⟨ph3, s, C3, S3, R.up (p.trans (p2.trans p3)) (k.trans (k2.trans k3)), run_bind h3 fun z' H4 ph4 u' C4 p4 k4 S4 r4 h4 => ?_⟩
      exact hs' ph4 C4 H4 e u' w z' Q _ S4 (r2.up (p3.trans p4) (k3.trans k4)) r4 h4
    | false =>
      rw [if_neg Bool.false_ne_true]
      exact run_val h3 S3 (.bl false)
  | non => exact h3.elim
  | int _ => exact h3.elim
  | str _ => exact h3.elim
  | tup _ => exact h3.elim
  | ref _ => exact h3.elim
  | fn _ => exact h3.elim
theorem j_chain {op op' : CmpOp} {r r' : R2} {f f' : D → D → Hs → R D} {a b c : Expr} {ma mb mc : ME} (ho : OpR X (compareOp op) r) (ho' : OpR X (compareOp op') r') (hs : S2 g f r) (hs' : S2 g f' r') (ha : JE g W X a ma) (hb : JE g W X b mb) (hc : JE g W X c mc)
    (hm : lastMarks [op, op'] [b, c] = false := by with_unfolding_all rfl) : JE g W X (.Compare a [op, op'] [b, c] pos) (eChain f f' ma mb mc) :=
  PE.imp (pe_chain ho ho' ha hb hc hm) fun σ H Q q => chain_reads hs hs' q
theorem b_chain {op op' : CmpOp} {r r' : R2} {f f' : D → D → Hs → R D} {a b c : Expr} {ma mb mc : ME} (ho : OpR X (compareOp op) r) (ho' : OpR X (compareOp op') r') (hs : S2 g f r) (hs' : S2 g f' r') (ha : JE g W X a ma) (hb : JE g W X b mb) (hc : JE g W X c mc)
    (hm : lastMarks [op, op'] [b, c] = false := by with_unfolding_all rfl) : JB g W X (.Compare a [op, op'] [b, c] pos) (toB (eChain f f' ma mb mc)) :=
  PT.imp (pt_chain ho ho' ha hb hc hm) fun σ H Q q => chain_reads hs hs' (toB_reads q)

/-! # and, or, not, if -/
def bAnd (a b : MB) : MB := fun s C => (a s C).bind fun c C1 => if c = true then b s C1 else .val false C1
def bOr (a b : MB) : MB := fun s C => (a s C).bind fun c C1 => if c = true then .val true C1 else b s C1
def bNot (a : MB) : MB := fun s C => (a s C).bind fun c C1 => .val (!c) C1
def eIf (t : MB) (a b : ME) : ME := fun s C => (t s C).bind fun c C1 => if c = true then a s C1 else b s C1
variable {a b : Expr} {rest : List Expr} {ma mb : MB}
theorem w_and1 (ha : JB g W X a ma) : JW g W X (.BoolOp .And [a] pos) ma := pw_and1 ha
theorem w_or1 (ha : JB g W X a ma) : JW g W X (.BoolOp .Or [a] pos) ma := pw_or1 ha
theorem w_and (ha : JB g W X a ma) (hb : JW g W X (.BoolOp .And (b :: rest) pos) mb) : JW g W X (.BoolOp .And (a :: b :: rest) pos) (bAnd ma mb) :=
  PW.imp (pw_and ha hb) fun σ H Q ⟨ph, s, C, S, R, h⟩ => ⟨ph, s, C, S, R, run_bind h fun v H1 ph1 d C1 p k S1 r1 h1 => by
    cases r1
    cases v with
    | true => exact ⟨ph1, s, C1, S1, R.up p k, h1⟩
    | false => exact run_val h1 S1 rfl⟩
theorem w_or (ha : JB g W X a ma) (hb : JW g W X (.BoolOp .Or (b :: rest) pos) mb) : JW g W X (.BoolOp .Or (a :: b :: rest) pos) (bOr ma mb) :=
  PW.imp (pw_or ha hb) fun σ H Q ⟨ph, s, C, S, R, h⟩ => ⟨ph, s, C, S, R, run_bind h fun v H1 ph1 d C1 p k S1 r1 h1 => by
    cases r1
    cases v with
    | true => exact run_val h1 S1 rfl
    | false => exact ⟨ph1, s, C1, S1, R.up p k, h1⟩⟩
theorem b_wh {e : Expr} {m : MB} (h : JW g W X e m) : JB g W X e m := h.pt
theorem b_not (ha : JB g W X a ma) : JB g W X (.UnaryOp .Not a pos) (bNot ma) :=
  PT.imp (pt_not ha) fun σ H Q ⟨ph, s, C, S, R, h⟩ => ⟨ph, s, C, S, R, run_bind h fun v H1 ph1 d C1 p k S1 r1 h1 => by cases r1; exact run_val h1 S1 rfl⟩
theorem j_if {c : Expr} {ea eb : ME} (hc : JB g W X c ma) (ha : JE g W X a ea) (hb : JE g W X b eb) : JE g W X (.IfExp c a b pos) (eIf ma ea eb) :=
  PE.imp (pe_ifExp hc ha hb) fun σ H Q ⟨ph, s, C, S, R, h⟩ => ⟨ph, s, C, S, R, run_bind h fun v H1 ph1 d C1 p k S1 r1 h1 => by
    cases r1
    cases v with
    | true => exact ⟨ph1, s, C1, S1, R.up p k, h1⟩
    | false => exact ⟨ph1, s, C1, S1, R.up p k, h1⟩⟩
/-- and, or, not as values, over bools -/
def eAnd (a b : ME) : ME := fun s C => (a s C).bind fun c C1 => match c with | .bl true => b s C1 | .bl false => .val (.bl false) C1 | _ => .bad
def eOr (a b : ME) : ME := fun s C => (a s C).bind fun c C1 => match c with | .bl true => .val (.bl true) C1 | .bl false => b s C1 | _ => .bad
def eNot (a : ME) : ME := fun s C => (a s C).bind fun c C1 => match c with | .bl b => .val (.bl !b) C1 | _ => .bad
theorem j_one {op} {m : ME} (h : JE g W X a m) : JE g W X (.BoolOp op [a] pos) m := pe_one h
theorem j_and {ea eb : ME} (ha : JE g W X a ea) (hb : JE g W X (.BoolOp .And (b :: rest) pos) eb) : JE g W X (.BoolOp .And (a :: b :: rest) pos) (eAnd ea eb) :=
  PE.imp (pe_and ha hb) fun σ H Q ⟨ph, s, C, S, R, h⟩ => ⟨ph, s, C, S, R, run_bind h fun v H1 ph1 d C1 p k S1 r1 h1 => by
    cases d with
    | bl c =>
      cases r1
      refine ⟨c, rfl, ?_⟩
      cases c with
      | true => exact ⟨ph1, s, C1, S1, R.up p k, h1⟩
      | false => exact run_val h1 S1 (.bl false)
    | non => exact h1.elim
    | int _ => exact h1.elim
    | str _ => exact h1.elim
    | tup _ => exact h1.elim
    | ref _ => exact h1.elim
    | fn _ => exact h1.elim⟩
theorem j_or {ea eb : ME} (ha : JE g W X a ea) (hb : JE g W X (.BoolOp .Or (b :: rest) pos) eb) : JE g W X (.BoolOp .Or (a :: b :: rest) pos) (eOr ea eb) :=
  PE.imp (pe_or ha hb) fun σ H Q ⟨ph, s, C, S, R, h⟩ => ⟨ph, s, C, S, R, run_bind h fun v H1 ph1 d C1 p k S1 r1 h1 => by
    cases d with
    | bl c =>
      cases r1
      refine ⟨c, rfl, ?_⟩
      cases c with
      | true => exact run_val h1 S1 (.bl true)
      | false => exact ⟨ph1, s, C1, S1, R.up p k, h1⟩
    | non => exact h1.elim
    | int _ => exact h1.elim
    | str _ => exact h1.elim
    | tup _ => exact h1.elim
    | ref _ => exact h1.elim
    | fn _ => exact h1.elim⟩
theorem j_not {ea : ME} (ha : JE g W X a ea) : JE g W X (.UnaryOp .Not a pos) (eNot ea) :=
  PE.imp (pe_not ha) fun σ H Q ⟨ph, s, C, S, R, h⟩ => ⟨ph, s, C, S, R, run_bind h fun v H1 ph1 d C1 p k S1 r1 h1 => by
    cases d with
    | bl c => cases r1; exact ⟨c, rfl, run_val h1 S1 (.bl _)⟩
    | non => exact h1.elim
    | int _ => exact h1.elim
    | str _ => exact h1.elim
    | tup _ => exact h1.elim
    | ref _ => exact h1.elim
    | fn _ => exact h1.elim⟩

/-! # argument lists, displays -/
def lNil : ML := fun _ C => .val [] C
def lCons (a : ME) (r : ML) : ML := fun s C => (a s C).bind fun d C1 => (r s C1).bind fun ds C2 => .val (d :: ds) C2
theorem l_nil : JL g W X [] lNil := PA.imp pa_nil fun σ H Q ⟨ph, s, C, S, R, h⟩ => run_val h S .nil
theorem l_cons {e : Expr} {es : List Expr} {m : ME} {ml : ML} (ha : JE g W X e m) (hr : JL g W X es ml) (hs : starEach (e :: es) X.env = (false, eval e X.env) :: starEach es X.env := by rfl) : JL g W X (e :: es) (lCons m ml) :=
  PA.imp (pa_cons ha hr hs) fun σ H Q ⟨ph, s, C, S, R, h⟩ => ⟨ph, s, C, S, R, run_bind h fun v H1 ph1 d C1 p k S1 r1 h1 =>
    ⟨ph1, s, C1, S1, R.up p k, run_bind h1 fun w H2 ph2 e C2 p2 k2 S2 r2 h2 => run_val h2 S2 (.cons (r1.up p2 k2) r2)⟩⟩
def eTup (l : ML) : ME := fun s C => (l s C).bind fun ds C1 => if ds.length ≤ sizeLine then .val (.tup ds) C1 else .bad
def eLst (l : ML) : ME := fun s C => (l s C).bind fun ds C1 => if ds.length ≤ sizeLine then .val (.ref C1.length) (C1 ++ [.lst ds]) else .bad
theorem j_tup {es : List Expr} {l : ML} {x1} (h : JL g W X es l) : JE g W X (.Tuple es x1 pos) (eTup l) :=
  PE.imp (pe_tup h) fun σ H Q ⟨ph, s, C, S, R, h⟩ => ⟨ph, s, C, S, R, run_bind h fun vs H1 ph1 ds C1 p k S1 r1 h1 => by
    by_cases hl : ds.length ≤ sizeLine
    · rw [if_pos hl] at h1
      exact ⟨by rw [← r1.length]; exact hl, fun q hq => run_tup h1 S1 hq r1⟩
    · rw [if_neg hl] at h1; exact h1.elim⟩
theorem j_lst {es : List Expr} {l : ML} (h : JL g W X es l) : JE g W X (.List es pos) (eLst l) :=
  PE.imp (pe_lst h) fun σ H Q ⟨ph, s, C, S, R, h⟩ => ⟨ph, s, C, S, R, run_bind h fun vs H1 ph1 ds C1 p k S1 r1 h1 => by
    by_cases hl : ds.length ≤ sizeLine
    · rw [if_pos hl] at h1
      exact ⟨by rw [← r1.length]; exact hl, fun q hq => run_alloc h1 S1 hq ⟨vs, upd_same, r1.up (List.prefix_append _ _) (keep_upd (noTup_none hq))⟩⟩
    · rw [if_neg hl] at h1; exact h1.elim⟩
end

/-! # what the operators do -/
def CMulX (i j : Int) : Prop := i.natAbs.log2 + j.natAbs.log2 < 134000000
instance (i j : Int) : Decidable (CMulX i j) := by unfold CMulX; infer_instance
theorem CMulX.ok {i j : Int} (h : CMulX i j) : IntMulOk i j := by
  have b : ∀ x : Int, Builtin.Int.intBits x ≤ x.natAbs.log2 + 1 := fun x => by
    unfold Builtin.Int.intBits
    split <;> omega
  have h1 := b i
  have h2 := b j
  have h3 : i.natAbs.log2 + j.natAbs.log2 < 134000000 := h
  have e : bitsLine = 134217728 := by decide
  unfold IntMulOk
  intro z
  rw [Bool.and_eq_true] at z
  have z2 := z.2
  unfold Builtin.Int.intTooBig at z2
  have z3 := of_decide_eq_true z2
  rw [e] at z3
  omega
def CDivX (i j : Int) : Prop := j ≠ 0 ∧ j.natAbs.log2 < 9000
instance (i j : Int) : Decidable (CDivX i j) := by unfold CDivX; infer_instance
instance (i j : Int) : Decidable (CPow i j) := by unfold CPow; infer_instance
section
variable {X : Cx}
theorem op_mulX : OpR X (binaryOp .Mult) (rI CMulX fun i j => .int (i * j)) := opI fun _ _ _ _ _ _ _ hc q => mul_int q hc.ok
theorem op_fdivX : OpR X (binaryOp .FloorDiv) (rI CDivX fun i j => .int (i.fdiv j)) := opI fun i j _ _ _ _ _ hc q => floordiv_int hc.1 q (.inl (PyProof.noPylong_of_log2 hc.2))
end
def oAdd (x y : D) (C : Hs) : R D := match x, y with
  | .int i, .int j => .val (.int (i + j)) C
  | .str a, .str b => if a.length + b.length ≤ sizeLine then .val (.str (a ++ b)) C else .bad
  | .ref i, .ref j => match C[i]?, C[j]? with
    | some (.lst xs), some (.lst ys) => if xs.length + ys.length ≤ sizeLine then .val (.ref C.length) (C ++ [.lst (xs ++ ys)]) else .bad
    | _, _ => .bad
  | _, _ => .bad
def oSub (x y : D) (C : Hs) : R D := match x, y with | .int i, .int j => .val (.int (i - j)) C | _, _ => .bad
def oMul (x y : D) (C : Hs) : R D := match x, y with | .int i, .int j => if CMulX i j then .val (.int (i * j)) C else .bad | _, _ => .bad
def oFdiv (x y : D) (C : Hs) : R D := match x, y with | .int i, .int j => if CDivX i j then .val (.int (i.fdiv j)) C else .bad | _, _ => .bad
def oMod (x y : D) (C : Hs) : R D := match x, y with | .int i, .int j => if j ≠ 0 then .val (.int (i.fmod j)) C else .bad | _, _ => .bad
def oPow (x y : D) (C : Hs) : R D := match x, y with | .int i, .int j => if CPow i j then .val (.int (i ^ j.toNat)) C else .bad | _, _ => .bad
def oNeg (x : D) (C : Hs) : R D := match x with | .int i => .val (.int (-i)) C | _ => .bad
def oLt (x y : D) (C : Hs) : R D := match x, y with | .int i, .int j => .val (.bl (decide (i < j))) C | _, _ => .bad
def oLe (x y : D) (C : Hs) : R D := match x, y with | .int i, .int j => .val (.bl (decide (i ≤ j))) C | _, _ => .bad
def oGt (x y : D) (C : Hs) : R D := match x, y with | .int i, .int j => .val (.bl (decide (j < i))) C | _, _ => .bad
def oGe (x y : D) (C : Hs) : R D := match x, y with | .int i, .int j => .val (.bl (decide (j ≤ i))) C | _, _ => .bad
section
variable {g : G}
/-- two ints -/
theorem s2_int {f : D → D → Hs → R D} {c : Int → Int → Prop} {z : Int → Int → V} (h : ∀ (ph : List Addr) (C : Hs) (H : Hp) (i j : Int) (Q : VK) (E : XK), Sim g ph C H → RunE g E ph H (f (.int i) (.int j) C) Q → c i j ∧ Q (z i j) H)
    (bad : ∀ x y C, (∀ i j, ¬ (x = .int i ∧ y = .int j)) → f x y C = .bad) : S2 g f (rI c z) := fun ph C H x y v w Q E S rx ry q => by
  by_cases e : ∃ i j, x = .int i ∧ y = .int j
  · obtain ⟨i, j, rfl, rfl⟩ := e
    cases rx; cases ry
    obtain ⟨h1, h2⟩ := h ph C H i j Q E S q
    exact ⟨i, j, rfl, rfl, h1, h2⟩
  · rw [bad x y C (fun i j z => e ⟨i, j, z⟩)] at q
    exact q.elim
theorem s2_int0 {f : D → D → Hs → R D} {z : Int → Int → V} (h : ∀ (ph : List Addr) (C : Hs) (H : Hp) (i j : Int) (Q : VK) (E : XK), Sim g ph C H → RunE g E ph H (f (.int i) (.int j) C) Q → Q (z i j) H)
    (bad : ∀ x y C, (∀ i j, ¬ (x = .int i ∧ y = .int j)) → f x y C = .bad) : S2 g f (rI0 z) := fun ph C H x y v w Q E S rx ry q => by
  by_cases e : ∃ i j, x = .int i ∧ y = .int j
  · obtain ⟨i, j, rfl, rfl⟩ := e
    cases rx; cases ry
    exact ⟨i, j, rfl, rfl, h ph C H i j Q E S q⟩
  · rw [bad x y C (fun i j z => e ⟨i, j, z⟩)] at q
    exact q.elim
theorem s_sub : S2 g oSub (rI0 fun i j => .int (i - j)) := s2_int0 (fun ph C H i j Q E S q => run_val q S (.int _)) fun x y C h => by
  cases x <;> cases y <;> first | rfl | exact (h _ _ ⟨rfl, rfl⟩).elim
theorem s_mul : S2 g oMul (rI CMulX fun i j => .int (i * j)) := s2_int (fun ph C H i j Q E S q => by
    unfold oMul at q
    by_cases c : CMulX i j
    · simp only [if_pos c] at q; exact ⟨c, run_val q S (.int _)⟩
    · simp only [if_neg c] at q; exact q.elim) fun x y C h => by
  cases x <;> cases y <;> first | rfl | exact (h _ _ ⟨rfl, rfl⟩).elim
theorem s_fdiv : S2 g oFdiv (rI CDivX fun i j => .int (i.fdiv j)) := s2_int (fun ph C H i j Q E S q => by
    unfold oFdiv at q
    by_cases c : CDivX i j
    · simp only [if_pos c] at q; exact ⟨c, run_val q S (.int _)⟩
    · simp only [if_neg c] at q; exact q.elim) fun x y C h => by
  cases x <;> cases y <;> first | rfl | exact (h _ _ ⟨rfl, rfl⟩).elim
theorem s_mod : S2 g oMod (rI (fun _ j => j ≠ 0) fun i j => .int (i.fmod j)) := s2_int (fun ph C H i j Q E S q => by
    unfold oMod at q
    by_cases c : j ≠ 0
    · simp only [if_pos c] at q; exact ⟨c, run_val q S (.int _)⟩
    · simp only [if_neg c] at q; exact q.elim) fun x y C h => by
  cases x <;> cases y <;> first | rfl | exact (h _ _ ⟨rfl, rfl⟩).elim
theorem s_pow : S2 g oPow (rI CPow fun i j => .int (i ^ j.toNat)) := s2_int (fun ph C H i j Q E S q => by
    unfold oPow at q
    by_cases c : CPow i j
    · simp only [if_pos c] at q; exact ⟨c, run_val q S (.int _)⟩
    · simp only [if_neg c] at q; exact q.elim) fun x y C h => by
  cases x <;> cases y <;> first | rfl | exact (h _ _ ⟨rfl, rfl⟩).elim
theorem s_lt : S2 g oLt (rI0 fun i j => .bl (decide (i < j))) := s2_int0 (fun ph C H i j Q E S q => run_val q S (.bl _)) fun x y C h => by
  cases x <;> cases y <;> first | rfl | exact (h _ _ ⟨rfl, rfl⟩).elim
theorem s_le : S2 g oLe (rI0 fun i j => .bl (decide (i ≤ j))) := s2_int0 (fun ph C H i j Q E S q => run_val q S (.bl _)) fun x y C h => by
  cases x <;> cases y <;> first | rfl | exact (h _ _ ⟨rfl, rfl⟩).elim
theorem s_gt : S2 g oGt (rI0 fun i j => .bl (decide (j < i))) := s2_int0 (fun ph C H i j Q E S q => run_val q S (.bl _)) fun x y C h => by
  cases x <;> cases y <;> first | rfl | exact (h _ _ ⟨rfl, rfl⟩).elim
theorem s_ge : S2 g oGe (rI0 fun i j => .bl (decide (j ≤ i))) := s2_int0 (fun ph C H i j Q E S q => run_val q S (.bl _)) fun x y C h => by
  cases x <;> cases y <;> first | rfl | exact (h _ _ ⟨rfl, rfl⟩).elim
theorem s_neg : S1 g oNeg (rU fun i => .int (-i)) := fun ph C H x v Q E S r q => by
  cases x <;> first | exact q.elim | (cases r; exact ⟨_, rfl, run_val q S (.int _)⟩)
def rAddX : R2 := fun x y H Q => (rI0 (fun i j => .int (i + j)) x y H Q) ∨ (∃ i j, x = .str i ∧ y = .str j ∧ i.length + j.length ≤ sizeLine ∧ Q (.str (i ++ j)) H) ∨ rCat x y H Q
theorem op_addX {X : Cx} : OpR X (binaryOp .Add) rAddX := op_add.or (op_add_str.or op_cat)
theorem s_add : S2 g oAdd rAddX := fun ph C H x y v w Q E S rx ry q => by
  cases x <;> cases y <;> try exact q.elim
  · cases rx; cases ry
    exact .inl ⟨_, _, rfl, rfl, run_val q S (.int _)⟩
  · cases rx; cases ry
    rename_i a b
    refine .inr (.inl ?_)
    unfold oAdd at q
    by_cases c : a.length + b.length ≤ sizeLine
    · simp only [if_pos c] at q; exact ⟨_, _, rfl, rfl, c, run_val q S (.str _)⟩
    · simp only [if_neg c] at q; exact q.elim
  · rename_i i j
    cases rx with
    | ref ei =>
      cases ry with
      | ref ej =>
        refine .inr (.inr ?_)
        unfold oAdd at q
        simp only at q
        split at q
        · next xs ys h1 h2 =>
          obtain ⟨vs, hv, rv⟩ := S.get ei h1
          obtain ⟨ws, hw, rw'⟩ := S.get ej h2
          by_cases c : xs.length + ys.length ≤ sizeLine
          · rw [if_pos c] at q
            refine ⟨_, _, vs, ws, rfl, rfl, hv, hw, by rw [← rv.length, ← rw'.length]; exact c, fun p hp => ?_⟩
            exact run_alloc q S hp ⟨_, upd_same, (rv.append rw').up (List.prefix_append _ _) (keep_upd (noTup_none hp))⟩
          · rw [if_neg c] at q; exact q.elim
        · exact q.elim
end
end Mp
namespace Mp
open PySem PySem.Spec PyProof.Rows L2
/-! # data that may be compared -/
def leaf : D → Option PyData
  | .non => some .none
  | .bl b => some (.bool b)
  | .int i => some (.int i)
  | .str x => some (.str x)
  | _ => none
def allSome (f : D → Option PyData) : List D → Option (List PyData)
  | [] => some []
  | d :: ds => match f d, allSome f ds with
    | some x, some xs => some (x :: xs)
    | _, _ => none
def toPy : Nat → Hs → D → Option PyData
  | 0, _, d => leaf d
  | n + 1, C, d => match d with
    | .tup ds => (allSome (toPy n C) ds).map .tuple
    | .ref i => match C[i]? with
      | some (.lst ds) => (allSome (toPy n C) ds).map .list
      | some (.frz ds) => (allSome (toPy n C) ds).map .list
      | _ => none
    | d => leaf d
section
variable {g : G} {ph : List Addr} {C : Hs} {H : Hp}
theorem leaf_dp {d : D} {v : V} {p : PyData} (h : leaf d = some p) (r : RD g ph H d v) : Dp g.K H v p ∧ p.plain = true ∧ p.depth ≤ 0 := by
  cases r with
  | non => cases h; exact ⟨.non, rfl, by simp [PyData.depth]⟩
  | bl b => cases h; exact ⟨.bl b, rfl, by simp [PyData.depth]⟩
  | int i => cases h; exact ⟨.int i, rfl, by simp [PyData.depth]⟩
  | str x => cases h; exact ⟨.str x, rfl, by simp [PyData.depth]⟩
  | tup _ _ => cases h
  | ref _ => cases h
  | fn _ => cases h
theorem all_dp {f : D → Option PyData} {n : Nat} (hf : ∀ d v p, f d = some p → RD g ph H d v → Dp g.K H v p ∧ p.plain = true ∧ p.depth ≤ n) : ∀ {ds : List D} {vs : List V} {ps : List PyData}, allSome f ds = some ps → RDs g ph H ds vs → DpAll g.K H vs ps ∧ PyData.plainAll ps = true ∧ PyData.depthAll ps ≤ n
  | [], _, _, h, .nil => by cases h; exact ⟨.nil, rfl, by simp [PyData.depthAll]⟩
  | d :: ds, _, _, h, .cons r rs => by
    unfold allSome at h
    split at h
    · next x xs h1 h2 =>
      cases h
      obtain ⟨a1, a2, a3⟩ := hf _ _ _ h1 r
      obtain ⟨b1, b2, b3⟩ := all_dp hf h2 rs
      refine ⟨.cons a1 b1, by simp [PyData.plainAll, a2, b2], ?_⟩
      simp only [PyData.depthAll]
      omega
    · cases h
theorem frz_seq {i : Nat} {a : Addr} {ds : List D} (S : Sim g ph C H) (e : ph[i]? = some a) (h : C[i]? = some (.lst ds) ∨ C[i]? = some (.frz ds)) : ∃ vs, SqL g.K H a vs ∧ RDs g ph H ds vs := by
  rcases h with h | h
  · obtain ⟨vs, h1, h2⟩ := S.get e h
    exact ⟨vs, SqL.of h1, h2⟩
  · obtain ⟨vs, h1, h2⟩ := S.get e h
    exact ⟨vs, h1.seq, h2⟩
theorem toPy_dp (S : Sim g ph C H) : ∀ (n : Nat) (d : D) (v : V) (p : PyData), toPy n C d = some p → RD g ph H d v → Dp g.K H v p ∧ p.plain = true ∧ p.depth ≤ n
  | 0, d, v, p, h, r => leaf_dp h r
  | n + 1, d, v, p, h, r => by
    have lf : leaf d = some p → Dp g.K H v p ∧ p.plain = true ∧ p.depth ≤ n + 1 := fun h => by
      obtain ⟨a, b, c⟩ := leaf_dp h r
      exact ⟨a, b, by omega⟩
    cases r with
    | non => exact lf h
    | bl b => exact lf h
    | int i => exact lf h
    | str x => exact lf h
    | fn e => exact lf h
    | tup hs rs =>
      rename_i a vs ds
      simp only [toPy, Option.map_eq_some_iff] at h
      obtain ⟨ps, h, rfl⟩ := h
      obtain ⟨b1, b2, b3⟩ := all_dp (toPy_dp S n) h rs
      exact ⟨.tup hs b1, by simpa [PyData.plain] using b2, by simp only [PyData.depth]; omega⟩
    | ref e =>
      rename_i i a
      simp only [toPy] at h
      have go : ∀ ds, (C[i]? = some (.lst ds) ∨ C[i]? = some (.frz ds)) → (allSome (toPy n C) ds).map PyData.list = some p → Dp g.K H (.ref a) p ∧ p.plain = true ∧ p.depth ≤ n + 1 := fun ds hC h' => by
        simp only [Option.map_eq_some_iff] at h'
        obtain ⟨ps, h2, e3⟩ := h'
        subst e3
        obtain ⟨vs, hs, rs⟩ := frz_seq S e hC
        obtain ⟨b1, b2, b3⟩ := all_dp (toPy_dp S n) h2 rs
        exact ⟨.lst hs b1, by simpa [PyData.plain] using b2, by simp only [PyData.depth]; omega⟩
      split at h
      · next ds hC => exact go ds (.inl hC) h
      · next ds hC => exact go ds (.inr hC) h
      · cases h
end
def rEqP (K : PySem.W.Frag) : R2 := fun x y H Q => ∃ d e, Dp K H x d ∧ Dp K H y e ∧ d.plain = true ∧ e.plain = true ∧ d.depth ≤ 64 ∧ Q (.bl (PyData.eqv d e)) H
def rNeP (K : PySem.W.Frag) : R2 := fun x y H Q => ∃ d e, Dp K H x d ∧ Dp K H y e ∧ d.plain = true ∧ e.plain = true ∧ d.depth ≤ 64 ∧ Q (.bl (!PyData.eqv d e)) H
def rInP (K : PySem.W.Frag) (neg : Bool) : R2 := fun x y H Q => ∃ d es, Dp K H x d ∧ (Dp K H y (.list es) ∨ Dp K H y (.tuple es)) ∧ d.plain = true ∧ PyData.plainAll es = true ∧ d.depth ≤ 64 ∧ Q (.bl (if neg then !(es.any fun y => PyData.eqv y d) else es.any fun y => PyData.eqv y d)) H
section
variable {X : Cx}
theorem op_eqP (hu : X.A.units + 66 < cLine) : OpR X (compareOp .Eq) (rEqP X.K) := by
  intro pins s σ H x y v u Q I rx ry h
  obtain ⟨d, e, hd, he, sd, se, hl, q⟩ := h
  obtain ⟨as, r1⟩ := Dp.reads I d x v hd rx
  obtain ⟨bs, r2⟩ := Dp.reads I e y u he ry
  exact SeqAt.eq_plain r1 r2 sd se (by omega) ⟨.bl _, H, I, rfl, q⟩
theorem op_neP (hu : X.A.units + 66 < cLine) : OpR X (compareOp .NotEq) (rNeP X.K) := by
  intro pins s σ H x y v u Q I rx ry h
  obtain ⟨d, e, hd, he, sd, se, hl, q⟩ := h
  obtain ⟨as, r1⟩ := Dp.reads I d x v hd rx
  obtain ⟨bs, r2⟩ := Dp.reads I e y u he ry
  exact SeqAt.ne_plain r1 r2 sd se (by omega) ⟨.bl _, H, I, rfl, q⟩
theorem op_inP (hu : X.A.units + 66 < cLine) : OpR X (compareOp .In) (rInP X.K false) := by
  intro pins s σ H x y v u Q I rx ry h
  obtain ⟨d, es, hd, he, sd, se, hl, q⟩ := h
  obtain ⟨as, r1⟩ := Dp.reads I d x v hd rx
  rcases he with he | he
  · obtain ⟨bs, r2⟩ := Dp.reads I _ y u he ry
    exact SeqAt.in_list_data r2 r1 se sd (by omega) ⟨.bl _, H, I, rfl, q⟩
  · obtain ⟨bs, r2⟩ := Dp.reads I _ y u he ry
    exact SeqAt.in_tuple_data r2 r1 se sd (by omega) ⟨.bl _, H, I, rfl, q⟩
theorem op_notInP (hu : X.A.units + 66 < cLine) : OpR X (compareOp .NotIn) (rInP X.K true) := by
  intro pins s σ H x y v u Q I rx ry h
  obtain ⟨d, es, hd, he, sd, se, hl, q⟩ := h
  obtain ⟨as, r1⟩ := Dp.reads I d x v hd rx
  rcases he with he | he
  · obtain ⟨bs, r2⟩ := Dp.reads I _ y u he ry
    exact SeqAt.notIn_list_data r2 r1 se sd (by omega) ⟨.bl _, H, I, rfl, q⟩
  · obtain ⟨bs, r2⟩ := Dp.reads I _ y u he ry
    exact SeqAt.notIn_tuple_data r2 r1 se sd (by omega) ⟨.bl _, H, I, rfl, q⟩
end
def oEq (x y : D) (C : Hs) : R D := match toPy 64 C x, toPy 64 C y with | some p, some q => .val (.bl (PyData.eqv p q)) C | _, _ => .bad
def oNe (x y : D) (C : Hs) : R D := match toPy 64 C x, toPy 64 C y with | some p, some q => .val (.bl (!PyData.eqv p q)) C | _, _ => .bad
/-- the items of a list, a tuple -/
def itemsOf (C : Hs) : D → Option (List D)
  | .tup ds => some ds
  | .ref i => match C[i]? with | some (.lst ds) => some ds | some (.frz ds) => some ds | _ => none
  | _ => none
def oInP (neg : Bool) (x y : D) (C : Hs) : R D := match toPy 64 C x, toPy 65 C y with
  | some p, some (.list es) => .val (.bl (if neg then !(es.any fun y => PyData.eqv y p) else es.any fun y => PyData.eqv y p)) C
  | some p, some (.tuple es) => .val (.bl (if neg then !(es.any fun y => PyData.eqv y p) else es.any fun y => PyData.eqv y p)) C
  | _, _ => .bad
/-- x in y, y a text, a list or a tuple -/
def oIn (x y : D) (C : Hs) : R D := match x, y with
  | .str i, .str j => .val (.bl (!(Builtin.Str.occurrences j i 0 j.length 1).isEmpty)) C
  | _, _ => oInP false x y C
def oNotIn (x y : D) (C : Hs) : R D := match x, y with
  | .str i, .str j => .val (.bl (!(!(Builtin.Str.occurrences j i 0 j.length 1).isEmpty))) C
  | _, _ => oInP true x y C
def isNon : D → Bool
  | .non => true
  | _ => false
def oIs (x y : D) (C : Hs) : R D := match y with | .non => .val (.bl (isNon x)) C | _ => .bad
def oIsNot (x y : D) (C : Hs) : R D := match y with | .non => .val (.bl (!isNon x)) C | _ => .bad
section
variable {g : G}
theorem s_eq : S2 g oEq (rEqP g.K) := fun ph C H x y v w Q E S rx ry q => by
  unfold oEq at q
  split at q
  · next p q' h1 h2 =>
    obtain ⟨a1, a2, a3⟩ := toPy_dp S 64 x v p h1 rx
    obtain ⟨b1, b2, b3⟩ := toPy_dp S 64 y w q' h2 ry
    exact ⟨_, _, a1, b1, a2, b2, a3, run_val q S (.bl _)⟩
  · exact q.elim
theorem s_ne : S2 g oNe (rNeP g.K) := fun ph C H x y v w Q E S rx ry q => by
  unfold oNe at q
  split at q
  · next p q' h1 h2 =>
    obtain ⟨a1, a2, a3⟩ := toPy_dp S 64 x v p h1 rx
    obtain ⟨b1, b2, b3⟩ := toPy_dp S 64 y w q' h2 ry
    exact ⟨_, _, a1, b1, a2, b2, a3, run_val q S (.bl _)⟩
  · exact q.elim
theorem s_inP (neg : Bool) : S2 g (oInP neg) (rInP g.K neg) := fun ph C H x y v w Q E S rx ry q => by
  unfold oInP at q
  split at q
  · next p es h1 h2 =>
    obtain ⟨a1, a2, a3⟩ := toPy_dp S 64 x v p h1 rx
    obtain ⟨b1, b2, b3⟩ := toPy_dp S 65 y w _ h2 ry
    exact ⟨_, es, a1, .inl b1, a2, by simpa [PyData.plain] using b2, a3, run_val q S (.bl _)⟩
  · next p es h1 h2 =>
    obtain ⟨a1, a2, a3⟩ := toPy_dp S 64 x v p h1 rx
    obtain ⟨b1, b2, b3⟩ := toPy_dp S 65 y w _ h2 ry
    exact ⟨_, es, a1, .inr b1, a2, by simpa [PyData.plain] using b2, a3, run_val q S (.bl _)⟩
  · exact q.elim
def rInS : R2 := fun x y H Q => ∃ i j, x = .str i ∧ y = .str j ∧ Q (.bl (!(Builtin.Str.occurrences j i 0 j.length 1).isEmpty)) H
def rNinS : R2 := fun x y H Q => ∃ i j, x = .str i ∧ y = .str j ∧ Q (.bl (!(!(Builtin.Str.occurrences j i 0 j.length 1).isEmpty))) H
def rInX (K : PySem.W.Frag) : R2 := fun x y H Q => rInS x y H Q ∨ rInP K false x y H Q
def rNinX (K : PySem.W.Frag) : R2 := fun x y H Q => rNinS x y H Q ∨ rInP K true x y H Q
theorem op_inX {X : Cx} (hu : X.A.units + 66 < cLine) (hK : X.K = g.K := by rfl) : OpR X (compareOp .In) (rInX g.K) := hK ▸ op_in_str.or (op_inP hu)
theorem op_notInX {X : Cx} (hu : X.A.units + 66 < cLine) (hK : X.K = g.K := by rfl) : OpR X (compareOp .NotIn) (rNinX g.K) := hK ▸ op_notin_str.or (op_notInP hu)
theorem op_eqX {X : Cx} (hu : X.A.units + 66 < cLine) (hK : X.K = g.K := by rfl) : OpR X (compareOp .Eq) (rEqP g.K) := hK ▸ op_eqP hu
theorem op_neX {X : Cx} (hu : X.A.units + 66 < cLine) (hK : X.K = g.K := by rfl) : OpR X (compareOp .NotEq) (rNeP g.K) := hK ▸ op_neP hu
theorem s_in : S2 g oIn (rInX g.K) := fun ph C H x y v w Q E S rx ry q => by
  unfold oIn at q
  split at q
  · cases rx; cases ry
    exact .inl ⟨_, _, rfl, rfl, run_val q S (.bl _)⟩
  · exact .inr (s_inP false ph C H x y v w Q E S rx ry q)
theorem s_notIn : S2 g oNotIn (rNinX g.K) := fun ph C H x y v w Q E S rx ry q => by
  unfold oNotIn at q
  split at q
  · cases rx; cases ry
    exact .inl ⟨_, _, rfl, rfl, run_val q S (.bl _)⟩
  · exact .inr (s_inP true ph C H x y v w Q E S rx ry q)
theorem RD.is_non {ph : List Addr} {H : Hp} {d : D} {v : V} (r : RD g ph H d v) : isNon d = decide (v = .non) := by
  cases r <;> rfl
theorem s_is : S2 g oIs (fun x y H Q => y = .non ∧ Q (.bl (decide (x = .non))) H) := fun ph C H x y v w Q E S rx ry q => by
  cases y <;> first | exact q.elim | (cases ry; refine ⟨rfl, ?_⟩; rw [← rx.is_non]; exact run_val q S (.bl _))
theorem s_isNot : S2 g oIsNot (fun x y H Q => y = .non ∧ Q (.bl (!decide (x = .non))) H) := fun ph C H x y v w Q E S rx ry q => by
  cases y <;> first | exact q.elim | (cases ry; refine ⟨rfl, ?_⟩; rw [← rx.is_non]; exact run_val q S (.bl _))
end

/-! # subscripts and slices -/
theorem RDs.atI {g : G} {ph : List Addr} {H : Hp} {ds : List D} {vs : List V} {i : Int} {d : D} (r : RDs g ph H ds vs) (h : atI ds i = some d) : ∃ v, L2.atI vs i = some v ∧ RD g ph H d v := by
  unfold L2.atI at h ⊢
  rw [← r.length]
  cases e : ixN ds.length i with
  | none => rw [e] at h; cases h
  | some j =>
    rw [e] at h
    exact r.get h
def oIx (x y : D) (C : Hs) : R D := match x, y with
  | .str z, .int k => if z.length ≤ sizeLine then match atI z.cps.toList k with | some c => .val (.str ⟨#[c]⟩) C | none => .bad else .bad
  | x, .int k => match itemsOf C x with
    | some ds => match atI ds k with | some d => .val d C | none => .bad
    | none => .bad
  | _, _ => .bad
section
variable {g : G} {ph : List Addr} {C : Hs} {H : Hp}
theorem items_seq {x : D} {v : V} {ds : List D} (S : Sim g ph C H) (r : RD g ph H x v) (h : itemsOf C x = some ds) : ∃ a vs, v = .ref a ∧ (SqL g.K H a vs ∨ SqT g.K H a vs) ∧ RDs g ph H ds vs := by
  cases r with
  | tup hs rs => cases h; exact ⟨_, _, rfl, .inr hs, rs⟩
  | ref e =>
    simp only [itemsOf] at h
    split at h
    · next hC =>
      cases h
      obtain ⟨vs, h1, h2⟩ := frz_seq S e (.inl hC)
      exact ⟨_, vs, rfl, .inl h1, h2⟩
    · next hC =>
      cases h
      obtain ⟨vs, h1, h2⟩ := frz_seq S e (.inr hC)
      exact ⟨_, vs, rfl, .inl h1, h2⟩
    · cases h
  | non => cases h
  | bl _ => cases h
  | int _ => cases h
  | str _ => cases h
  | fn _ => cases h
theorem s_ix : S2 g oIx (rIx g.K) := fun ph C H x y v w Q E S rx ry q => by
  have go : ∀ k ds, itemsOf C x = some ds → w = .int k → RunE g E ph H (match atI ds k with | some d => .val d C | none => .bad) Q → rIx g.K v w H Q := fun k ds h ew q => by
    cases e : atI ds k with
    | none => rw [e] at q; exact q.elim
    | some d =>
      rw [e] at q
      obtain ⟨a, vs, rfl, h1, rs⟩ := items_seq S rx h
      obtain ⟨u, h2, ru⟩ := rs.atI e
      rcases h1 with h1 | h1
      · exact .inl ⟨a, vs, k, u, rfl, ew, h1, h2, run_val q S ru⟩
      · exact .inr (.inl ⟨a, vs, k, u, rfl, ew, h1, h2, run_val q S ru⟩)
  unfold oIx at q
  split at q
  · next z k =>
    cases rx; cases ry
    by_cases hl : z.length ≤ sizeLine
    · rw [if_pos hl] at q
      cases e : atI z.cps.toList k with
      | none => rw [e] at q; exact q.elim
      | some c => rw [e] at q; exact .inr (.inr ⟨z, k, c, rfl, rfl, hl, e, run_val q S (.str _)⟩)
    · rw [if_neg hl] at q; exact q.elim
  · next k _ =>
    cases ry
    split at q
    · next ds h => exact go k ds h rfl q
    · exact q.elim
  · exact q.elim
end
def cutD (xs : List D) (lo hi : Option Int) : List D := (xs.drop (HT.sIx xs.length 0 lo)).take (HT.sIx xs.length xs.length hi - HT.sIx xs.length 0 lo)
theorem RDs.cut {g : G} {ph : List Addr} {H : Hp} {ds : List D} {vs : List V} {lo hi : Option Int} (r : RDs g ph H ds vs) : RDs g ph H (cutD ds lo hi) (cutV vs lo hi) := by
  unfold cutD cutV
  rw [← r.length]
  exact (r.drop _).take _
abbrev MO := Sl → Hs → R (Option Int)
def oNone : MO := fun _ C => .val none C
def oSome (m : ME) : MO := fun s C => (m s C).bind fun d C1 => match d with | .int i => .val (some i) C1 | _ => .bad
def tO (g : G) (W : WX) (m : MO) : TO := fun σ H Q => ∃ ph s C, Sim g ph C H ∧ SR g ph H s σ ∧ Run (fun _ _ (d : Option Int) v => d = v) g (fun c d H' => W c d σ H') ph H (m s C) Q
def oSlice (x : D) (lo hi : Option Int) (C : Hs) : R D := match x with
  | .str z => if z.length ≤ sizeLine then .val (.str (cutS z lo hi)) C else .bad
  | .tup ds => .val (.tup (cutD ds lo hi)) C
  | .ref i => match C[i]? with
    | some (.lst ds) => .val (.ref C.length) (C ++ [.lst (cutD ds lo hi)])
    | some (.frz ds) => .val (.ref C.length) (C ++ [.lst (cutD ds lo hi)])
    | _ => .bad
  | _ => .bad
def eSlice (e : ME) (lo hi : MO) : ME := fun s C => (e s C).bind fun x C1 => (lo s C1).bind fun l C2 => (hi s C2).bind fun h C3 => oSlice x l h C3
section
variable {g : G} {W : WX} {X : Cx} {pos p2 : Pos}
def rSlX (K : PySem.W.Frag) : V → Option Int → Option Int → Hp → VK → Prop := fun x lo hi H Q => rSlL K x lo hi H Q ∨ rSlA K x lo hi H Q ∨ rSlS x lo hi H Q
theorem sl_X (hK : X.K = g.K := by rfl) : SlR X (rSlX g.K) := hK ▸ sl_list.or (sl_tupA.or sl_str)
theorem o_none : PO X none (tO g W oNone) := ⟨fun pins s σ H Q I ⟨ph, sl, C, S, R, h⟩ => po_none.run pins s σ H Q I (run_val h S rfl)⟩
theorem o_some {e : Expr} {m : ME} (h : JE g W X e m) : PO X (some e) (tO g W (oSome m)) := ⟨fun pins s σ H Q I ⟨ph, sl, C, S, R, q⟩ => (po_some h).run pins s σ H Q I ⟨ph, sl, C, S, R, run_bind q fun v H1 ph1 d C1 p k S1 r1 h1 => by
  cases d with
  | int i => cases r1; exact ⟨i, rfl, run_val h1 S1 rfl⟩
  | non => exact h1.elim
  | bl _ => exact h1.elim
  | str _ => exact h1.elim
  | tup _ => exact h1.elim
  | ref _ => exact h1.elim
  | fn _ => exact h1.elim⟩⟩
theorem slice_reads {ph : List Addr} {C : Hs} {H : Hp} {x : D} {v : V} {lo hi : Option Int} {Q : VK} {E : XK} (S : Sim g ph C H) (r : RD g ph H x v) (q : RunE g E ph H (oSlice x lo hi C) Q) : rSlX g.K v lo hi H Q := by
  cases r with
  | str z =>
    unfold oSlice at q
    by_cases hl : z.length ≤ sizeLine
    · simp only [if_pos hl] at q; exact .inr (.inr ⟨z, rfl, hl, run_val q S (.str _)⟩)
    · simp only [if_neg hl] at q; exact q.elim
  | tup hs rs =>
    rename_i a vs ds
    refine .inr (.inl ⟨a, vs, rfl, hs, ?_⟩)
    constructor
    · intro hw
      refine run_val q S (.tup hs ?_)
      have e : cutD ds lo hi = ds := by
        unfold cutD
        rw [rs.length, hw.1, hw.2, List.drop_zero, Nat.sub_zero, List.take_of_length_le (by rw [rs.length]; exact Nat.le_refl _)]
      rw [e]; exact rs
    · intro hw p hp
      exact run_tup q S hp rs.cut
  | ref e =>
    rename_i i a
    simp only [oSlice] at q
    split at q
    · next ds hC =>
      obtain ⟨vs, h1, h2⟩ := frz_seq S e (.inl hC)
      exact .inl ⟨a, vs, rfl, h1, fun p hp => run_alloc q S hp ⟨_, upd_same, h2.cut.up (List.prefix_append _ _) (keep_upd (noTup_none hp))⟩⟩
    · next ds hC =>
      obtain ⟨vs, h1, h2⟩ := frz_seq S e (.inr hC)
      exact .inl ⟨a, vs, rfl, h1, fun p hp => run_alloc q S hp ⟨_, upd_same, h2.cut.up (List.prefix_append _ _) (keep_upd (noTup_none hp))⟩⟩
    · exact q.elim
  | non => exact q.elim
  | bl _ => exact q.elim
  | int _ => exact q.elim
  | fn _ => exact q.elim
theorem j_slice {e : Expr} {lo hi : Option Expr} {m : ME} {ml mh : MO} (he : JE g W X e m) (hl : PO X lo (tO g W ml)) (hh : PO X hi (tO g W mh)) (hK : X.K = g.K := by rfl) : JE g W X (.Subscript e (.Slice lo hi none p2) pos) (eSlice m ml mh) :=
  PE.imp (pe_slice (sl_X hK) he hl hh) fun σ H Q ⟨ph, s, C, S, R, h⟩ => ⟨ph, s, C, S, R, run_bind h fun v H1 ph1 d C1 p k S1 r1 h1 =>
    ⟨ph1, s, C1, S1, R.up p k, run_bind h1 fun l H2 ph2 l' C2 p2 k2 S2 r2 h2 => by
      cases r2
      refine ⟨ph2, s, C2, S2, R.up (p.trans p2) (k.trans k2), run_bind h2 fun u H3 ph3 u' C3 p3 k3 S3 r3 h3 => ?_⟩
      cases r3
      exact slice_reads S3 (r1.up (p2.trans p3) (k2.trans k3)) h3⟩⟩
theorem j_ix {a b : Expr} {ma mb : ME} (ha : JE g W X a ma) (hb : JE g W X b mb) (hs : PlainIx b := by exact fun _ _ => rfl) (hK : X.K = g.K := by rfl) : JE g W X (.Subscript a b pos) (eBin oIx ma mb) :=
  PE.imp (pe_ix (r := rIx g.K) (hK ▸ ix_seq) ha hb hs) fun σ H Q q => bin_reads s_ix q
end
end Mp
namespace Mp
open PySem PySem.Spec PyProof.Rows L2
/-! # calls by values -/
def SL (g : G) (f : List D → Hs → R D) (r : List V → Hp → VK → Prop) : Prop := ∀ (ph : List Addr) (C : Hs) (H : Hp) (xs : List D) (vs : List V) (Q : VK) (E : XK), Sim g ph C H → RDs g ph H xs vs → RunE g E ph H (f xs C) Q → r vs H Q
def eCall (f : List D → Hs → R D) (l : ML) : ME := fun s C => (l s C).bind f
section
variable {g : G} {W : WX} {X : Cx} {x : Str} {p pos : Pos} {e : Expr} {es : List Expr} {l : ML} {id T : String} {r : List V → Hp → VK → Prop} {f : List D → Hs → R D}
theorem call_reads (hs : SL g f r) {σ : L2.St} {H : Hp} {Q : VK} (q : tJ g W (eCall f l) σ H Q) : tCB r (tL g W l) σ H Q := by
  obtain ⟨ph, s, C, S, R, h⟩ := q
  exact ⟨ph, s, C, S, R, run_bind h fun vs H1 ph1 ds C1 p k S1 r1 h1 => hs ph1 C1 H1 ds vs Q _ S1 r1 h1⟩
/-- a built-in function's call -/
theorem j_callB (hc : CallR X (.builtin id) r) (hs : SL g f r) (hg : Gl X x) (hm : g.mg x = none) (hv : bootBuiltins x = some (.builtin id)) (ha : JL g W X (e :: es) l) (hM : X.mg = g.mg := by rfl) (hn : x ≠ "__name__" := by decide) (hdb : (x == ("__debug__" : Str)) = false := by decide)
    (he : starEach (e :: es) X.env = (false, eval e X.env) :: starEach es X.env := by rfl) (hpl : (backTo pos (starEach es X.env)).any (·.1) = false := by rfl) : JE g W X (.Call (.Name x p) (e :: es) [] pos) (eCall f l) :=
  PE.imp (pe_callB hc hg (hM ▸ hm) hv ha hn hdb he hpl) fun σ H Q q => call_reads hs q
theorem j_callTy (hc : CallR X (.type T) r) (hs : SL g f r) (hg : Gl X x) (hm : g.mg x = none) (hv : bootBuiltins x = some (.type T)) (ha : JL g W X (e :: es) l) (hM : X.mg = g.mg := by rfl) (hn : x ≠ "__name__" := by decide) (hdb : (x == ("__debug__" : Str)) = false := by decide)
    (he : starEach (e :: es) X.env = (false, eval e X.env) :: starEach es X.env := by rfl) (hpl : (backTo pos (starEach es X.env)).any (·.1) = false := by rfl) : JE g W X (.Call (.Name x p) (e :: es) [] pos) (eCall f l) :=
  PE.imp (pe_callTy hc hg (hM ▸ hm) hv ha hn hdb he hpl) fun σ H Q q => call_reads hs q
theorem j_callBf (hc : CallR X (.builtin id) r) (hs : SL g f r) (hg : Gl X x) (hm : g.mg x = some (.builtin id)) (ha : JL g W X (e :: es) l) (hM : X.mg = g.mg := by rfl) (hdb : (x == ("__debug__" : Str)) = false := by decide)
    (he : starEach (e :: es) X.env = (false, eval e X.env) :: starEach es X.env := by rfl) (hpl : (backTo pos (starEach es X.env)).any (·.1) = false := by rfl) : JE g W X (.Call (.Name x p) (e :: es) [] pos) (eCall f l) :=
  PE.imp (pe_callBfun hc hg (hM ▸ hm) ha hdb he hpl) fun σ H Q q => call_reads hs q
end
def fInt (xs : List D) (C : Hs) : R D := match xs with | [.int i] => .val (.int i) C | [.bl b] => .val (.int (if b then 1 else 0)) C | _ => .bad
def fAbs (xs : List D) (C : Hs) : R D := match xs with | [.int i] => .val (.int (if i < 0 then -i else i)) C | _ => .bad
def fMin2 (xs : List D) (C : Hs) : R D := match xs with | [.int i, .int j] => .val (.int (if j < i then j else i)) C | _ => .bad
def fMax2 (xs : List D) (C : Hs) : R D := match xs with | [.int i, .int j] => .val (.int (if j > i then j else i)) C | _ => .bad
def fGcd (xs : List D) (C : Hs) : R D := match xs with | [.int i, .int j] => .val (.int ((Nat.gcd i.natAbs j.natAbs : Nat) : Int)) C | _ => .bad
def fLen (xs : List D) (C : Hs) : R D := match xs with
  | [.str z] => if z.length ≤ sizeLine then .val (.int z.length) C else .bad
  | [d] => match itemsOf C d with | some ds => .val (.int ds.length) C | none => .bad
  | _ => .bad
def fList (xs : List D) (C : Hs) : R D := match xs with
  | [d] => match itemsOf C d with | some ds => .val (.ref C.length) (C ++ [.lst ds]) | none => .bad
  | _ => .bad
def intsOf : List D → Option (List Int)
  | [] => some []
  | .int i :: r => (intsOf r).map (i :: ·)
  | _ => none
def fSum (xs : List D) (C : Hs) : R D := match xs with
  | [.ref i] => match C[i]? with
    | some (.lst ds) => match intsOf ds with | some ns => .val (.int ns.sum) C | none => .bad
    | _ => .bad
  | _ => .bad
section
variable {g : G} {X : Cx}
theorem intsOf_map : ∀ {ds : List D} {ns : List Int}, intsOf ds = some ns → ds = ns.map D.int
  | [], _, h => by cases h; rfl
  | .int i :: r, ns, h => by
    simp only [intsOf, Option.map_eq_some_iff] at h
    obtain ⟨ms, h, rfl⟩ := h
    rw [intsOf_map h]; rfl
  | .non :: _, _, h => by cases h
  | .bl _ :: _, _, h => by cases h
  | .str _ :: _, _, h => by cases h
  | .tup _ :: _, _, h => by cases h
  | .ref _ :: _, _, h => by cases h
  | .fn _ :: _, _, h => by cases h
theorem s_int : SL g fInt (fun xs H Q => (∃ i, xs = [.int i] ∧ Q (.int i) H) ∨ ∃ k, xs = [.bl k] ∧ Q (.int (if k then 1 else 0)) H) := fun ph C H xs vs Q E S r q => by
  unfold fInt at q
  split at q
  · cases r with | cons a b => cases a; cases b; exact .inl ⟨_, rfl, run_val q S (.int _)⟩
  · cases r with | cons a b => cases a; cases b; exact .inr ⟨_, rfl, run_val q S (.int _)⟩
  · exact q.elim
theorem s_abs : SL g fAbs (fun xs H Q => ∃ i, xs = [.int i] ∧ Q (.int (if i < 0 then -i else i)) H) := fun ph C H xs vs Q E S r q => by
  unfold fAbs at q
  split at q
  · cases r with | cons a b => cases a; cases b; exact ⟨_, rfl, run_val q S (.int _)⟩
  · exact q.elim
theorem s_min2 : SL g fMin2 (fun xs H Q => ∃ i j, xs = [.int i, .int j] ∧ Q (.int (if j < i then j else i)) H) := fun ph C H xs vs Q E S r q => by
  unfold fMin2 at q
  split at q
  · cases r with | cons a b => cases b with | cons b c => cases a; cases b; cases c; exact ⟨_, _, rfl, run_val q S (.int _)⟩
  · exact q.elim
theorem s_max2 : SL g fMax2 (fun xs H Q => ∃ i j, xs = [.int i, .int j] ∧ Q (.int (if j > i then j else i)) H) := fun ph C H xs vs Q E S r q => by
  unfold fMax2 at q
  split at q
  · cases r with | cons a b => cases b with | cons b c => cases a; cases b; cases c; exact ⟨_, _, rfl, run_val q S (.int _)⟩
  · exact q.elim
theorem s_gcd : SL g fGcd rGcd := fun ph C H xs vs Q E S r q => by
  unfold fGcd at q
  split at q
  · cases r with | cons a b => cases b with | cons b c => cases a; cases b; cases c; exact ⟨_, _, rfl, run_val q S (.int _)⟩
  · exact q.elim
theorem s_len : SL g fLen (fun xs H Q => ∃ x n, xs = [x] ∧ LenV g.K x H n ∧ Q (.int n) H) := fun ph C H xs vs Q E S r q => by
  unfold fLen at q
  split at q
  · next z =>
    cases r with
    | cons a b =>
      cases a; cases b
      by_cases hl : z.length ≤ sizeLine
      · rw [if_pos hl] at q; exact ⟨_, _, rfl, ⟨hl, rfl⟩, run_val q S (.int _)⟩
      · rw [if_neg hl] at q; exact q.elim
  · next d _ =>
    cases r with
    | cons a b =>
      cases b
      split at q
      · next ds h =>
        obtain ⟨p, vs, rfl, h1, rs⟩ := items_seq S a h
        rcases h1 with h1 | h1
        · exact ⟨_, ds.length, rfl, .inl ⟨vs, h1, rs.length⟩, run_val q S (.int _)⟩
        · exact ⟨_, ds.length, rfl, .inr ⟨vs, h1, rs.length⟩, run_val q S (.int _)⟩
      · exact q.elim
  · exact q.elim
theorem s_list : SL g fList (fun xs H Q => ∃ p ys, xs = [.ref p] ∧ (SqL g.K H p ys ∨ SqT g.K H p ys) ∧ ∀ l, H l = none → Q (.ref l) (upd H l (.lst ys))) := fun ph C H xs vs Q E S r q => by
  unfold fList at q
  split at q
  · next d =>
    cases r with
    | cons a b =>
      cases b
      split at q
      · next ds h =>
        obtain ⟨p, vs, rfl, h1, rs⟩ := items_seq S a h
        exact ⟨_, vs, rfl, h1, fun l hl => run_alloc q S hl ⟨_, upd_same, rs.up (List.prefix_append _ _) (keep_upd (noTup_none hl))⟩⟩
      · exact q.elim
  · exact q.elim
theorem s_sum : SL g fSum (rSum g.K) := fun ph C H xs vs Q E S r q => by
  unfold fSum at q
  split at q
  · next i =>
    cases r with
    | cons a b =>
      cases b
      cases a with
      | ref e =>
        split at q
        · next ds h =>
          split at q
          · next ns hn =>
            obtain ⟨vs, h1, rs⟩ := S.get e h
            rw [intsOf_map hn] at rs
            exact ⟨_, ns, rfl, SqL.of (by rw [← rs.ints]; exact h1), run_val q S (.int _)⟩
          · exact q.elim
        · exact q.elim
  · exact q.elim
theorem c_len (hK : X.K = g.K := by rfl) : CallR X (.builtin "len") (fun xs H Q => ∃ x n, xs = [x] ∧ LenV g.K x H n ∧ Q (.int n) H) := hK ▸ call_len
theorem c_list (hK : X.K = g.K := by rfl) : CallR X (.type "list") (fun xs H Q => ∃ p ys, xs = [.ref p] ∧ (SqL g.K H p ys ∨ SqT g.K H p ys) ∧ ∀ l, H l = none → Q (.ref l) (upd H l (.lst ys))) := hK ▸ call_list_of
theorem c_sum (hc : X.calm = true := by rfl) (hK : X.K = g.K := by rfl) : CallR X (.builtin "sum") (rSum g.K) := hK ▸ cr_sum hc
end

/-! # isinstance of a built-in class -/
def tyName (C : Hs) : D → Option String
  | .non => some "NoneType"
  | .bl _ => some "bool"
  | .int _ => some "int"
  | .str _ => some "str"
  | .tup _ => some "tuple"
  | .ref i => match C[i]? with
    | some (.lst _) => some "list"
    | some (.frz _) => some "list"
    | some (.dic _) => some "dict"
    | some (.dit _) => some "dict"
    | _ => none
  | .fn _ => none
def isTy (a b : String) : Bool := a == b || (a == "bool" && b == "int")
def fIsi (T : String) (x : D) (C : Hs) : R D := match tyName C x with | some a => .val (.bl (isTy a T)) C | none => .bad
def eIsi (T : String) (m : ME) : ME := fun s C => (m s C).bind (fIsi T)
section
variable {g : G} {W : WX} {X : Cx} {p p2 pos : Pos} {e : Expr} {m : ME} {T : String} {x : Str}
theorem kit_all {a : String} (ha : a ∈ ["NoneType", "bool", "int", "str", "tuple", "list", "dict"]) (hT : T ∈ ["bool", "int", "str", "tuple", "list", "dict"]) : kitB a T = some (isTy a T) := by
  have h : (["NoneType", "bool", "int", "str", "tuple", "list", "dict"].all fun a => ["bool", "int", "str", "tuple", "list", "dict"].all fun T => kitB a T == some (isTy a T)) = true := by decide +kernel
  have h1 := List.all_eq_true.mp h a ha
  have h2 := List.all_eq_true.mp h1 T hT
  exact eq_of_beq h2
theorem ty_reads {ph : List Addr} {C : Hs} {H : Hp} {d : D} {v : V} {a : String} (S : Sim g ph C H) (r : RD g ph H d v) (h : tyName C d = some a) : TyX g.K H v (.type a) ∧ a ∈ ["NoneType", "bool", "int", "str", "tuple", "list", "dict"] := by
  cases r with
  | non => cases h; exact ⟨.base .non, by decide⟩
  | bl b => cases h; exact ⟨.base (.bl b), by decide⟩
  | int i => cases h; exact ⟨.base (.int i), by decide⟩
  | str z => cases h; exact ⟨.base (.str z), by decide⟩
  | tup hs _ =>
    cases h
    refine ⟨?_, by decide⟩
    rcases hs with (hs | ⟨ob, hs⟩) | ⟨o, its, n, hk, hc, _⟩
    · exact .base (.tup hs)
    · exact .fTuple hs
    · exact .kTuple hk hc
  | fn _ => cases h
  | ref e =>
    simp only [tyName] at h
    split at h
    · next hC => cases h; obtain ⟨vs, h1, _⟩ := S.get e hC; exact ⟨.base (.lst h1), by decide⟩
    · next hC =>
      cases h
      obtain ⟨vs, h1, _⟩ := S.get e hC
      refine ⟨?_, by decide⟩
      rcases h1 with ⟨ob, h1⟩ | ⟨o, its, n, hk, hc, _⟩
      · exact .base (.frz h1)
      · exact .kList hk hc
    · next hC => cases h; obtain ⟨vs, h1, _⟩ := S.get e hC; exact ⟨.base (.dK h1), by decide⟩
    · next hC => cases h; obtain ⟨vs, h1, _⟩ := S.get e hC; exact ⟨.base (.dT h1), by decide⟩
    · cases h
theorem j_isi (T : String) (hT : T ∈ ["bool", "int", "str", "tuple", "list", "dict"]) (hg : Gl X "isinstance") (hm : g.mg "isinstance" = none) (hg2 : Gl X x) (hm2 : g.mg x = none) (hv2 : bootBuiltins x = some (.type T)) (ha : JE g W X e m)
    (hK : X.K = g.K := by rfl) (hM : X.mg = g.mg := by rfl) (hn : x ≠ "__name__" := by decide) (hdb : (x == ("__debug__" : Str)) = false := by decide)
    (he : starEach [e, .Name x p2] X.env = (false, eval e X.env) :: starEach [.Name x p2] X.env := by rfl) (he2 : starEach [.Name x p2] X.env = [(false, eval (.Name x p2) X.env)] := by rfl) (hpl : (backTo pos (starEach [.Name x p2] X.env)).any (·.1) = false := by rfl) :
    JE g W X (.Call (.Name "isinstance" p) [e, .Name x p2] [] pos) (eIsi T m) := by
  have h2 : PE X (.Name x p2) (tC (.ty T)) := pe_bltn hg2 (hM ▸ hm2) hv2 rfl hn hdb
  refine PE.imp (pe_callB (r := rIsi X.K) call_isi hg (hM ▸ hm) (by decide +kernel) (pa_cons ha (pa_cons h2 pa_nil he2) he) (by decide) (by decide) he hpl) fun σ H Q ⟨ph, s, C, S, R, h⟩ => ?_
  refine ⟨ph, s, C, S, R, run_bind h fun v H1 ph1 d C1 p k S1 r1 h1 => ?_⟩
  unfold fIsi at h1
  split at h1
  · next a ea =>
    obtain ⟨t1, t2⟩ := ty_reads S1 r1 ea
    rw [hK]
    exact ⟨v, .ty T, .type a, .type T, isTy a T, rfl, by constructor, t1, kit_ty (kit_all t2 hT), run_val h1 S1 (.bl _)⟩
  · exact h1.elim
end

/-! # truth of a value as a test -/
def truth (C : Hs) : D → Option Bool
  | .non => some false
  | .bl b => some b
  | .int i => some (i != 0)
  | .str y => if y.length ≤ sizeLine then some ((y.length : Int) != 0) else none
  | .ref i => match C[i]? with
    | some (.lst ds) => some (!ds.isEmpty)
    | some (.frz ds) => some (!ds.isEmpty)
    | some (.dic kvs) => some (!kvs.isEmpty)
    | _ => none
  | .tup ds => some (!ds.isEmpty)
  | _ => none
def bTru (m : ME) : MB := fun s C => (m s C).bind fun d C1 => match truth C1 d with | some b => .val b C1 | none => .bad
section
variable {g : G} {W : WX} {X : Cx} {e : Expr} {m : ME}
theorem RKv.isEmpty {k : Type} {ph : List Addr} {H : Hp} {ds : List (k × D)} {vs : List (k × V)} (r : RKv g ph H ds vs) : vs.isEmpty = ds.isEmpty := by cases r <;> rfl
theorem truth_reads {ph : List Addr} {C : Hs} {H : Hp} {d : D} {v : V} {b : Bool} (S : Sim g ph C H) (r : RD g ph H d v) (h : truth C d = some b) : TruV g.K v H b := by
  cases r with
  | non => cases h; rfl
  | bl b => cases h; rfl
  | int i => cases h; rfl
  | str y =>
    simp only [truth] at h
    split at h
    · next hl => cases h; exact ⟨hl, rfl⟩
    · cases h
  | tup hs rs => cases h; exact .inr (.inl ⟨_, hs, by rw [rs.isEmpty]⟩)
  | fn _ => cases h
  | ref e =>
    simp only [truth] at h
    split at h
    · next hC => cases h; obtain ⟨vs, h1, rs⟩ := frz_seq S e (.inl hC); exact .inl ⟨vs, h1, by rw [rs.isEmpty]⟩
    · next hC => cases h; obtain ⟨vs, h1, rs⟩ := frz_seq S e (.inr hC); exact .inl ⟨vs, h1, by rw [rs.isEmpty]⟩
    · next hC => cases h; obtain ⟨vs, h1, rs⟩ := S.get e hC; exact .inr (.inr ⟨vs, h1, by rw [rs.isEmpty]⟩)
    · cases h
theorem b_tru (ha : JE g W X e m) (he : ∀ whole, isTrue e X.env whole = (do let v ← whole; standAt e.pos; holding [v] (truthy v)) := by intro _; rfl) (hK : X.K = g.K := by rfl) : JB g W X e (bTru m) :=
  PT.imp (pt_truth ha he) fun σ H Q ⟨ph, s, C, S, R, h⟩ => ⟨ph, s, C, S, R, run_bind h fun v H1 ph1 d C1 p k S1 r1 h1 => by
    split at h1
    · next b eb => exact ⟨b, hK ▸ truth_reads S1 r1 eb, run_val h1 S1 rfl⟩
    · exact h1.elim⟩
end

/-! # statements -/
def sSkip : MS := fun s C => .nx s C
def sSeq (a b : MS) : MS := fun s C => (a s C).seq b
def sIf (t : MB) (a b : MS) : MS := fun s C => (t s C).stm s fun c C1 => if c = true then a s C1 else b s C1
def sRet (m : ME) : MS := fun s C => (m s C).stm s fun d C1 => .rt d C1
def sRetN : MS := fun _ C => .rt .non C
def sDrop (m : ME) : MS := fun s C => (m s C).stm s fun _ C1 => .nx s C1
def sBreak : MS := fun s C => .bk s C
def sCont : MS := fun s C => .ct s C
/-- what a target does with a value -/
abbrev MG := D → Sl → Hs → R Sl
def sAsg (m : ME) (t : MG) : MS := fun s C => (m s C).stm s fun d C1 => match t d s C1 with | .val s' C2 => .nx s' C2 | _ => .bad
def tgN (i : Nat) : MG := fun d s C => .val (s.set i (some d)) C
def tgAll : List MG → List D → Sl → Hs → R Sl
  | [], [], s, C => .val s C
  | t :: ts, d :: ds, s, C => (t d s C).bind fun s' C' => tgAll ts ds s' C'
  | _, _, _, _ => .bad
def tgT (ts : List MG) : MG := fun d s C => match d with | .tup ds => if ds.length = ts.length then tgAll ts ds s C else .bad | _ => .bad
abbrev RunG (g : G) (ph : List Addr) (H : Hp) (r : R Sl) (Q : L2.St → Hp → Prop) : Prop := Run (fun p h s σ => SR g p h s σ) g (fun _ _ _ => False) ph H r Q
def tG (g : G) (m : MG) : TG := fun v σ H Q => ∃ ph s C d, Sim g ph C H ∧ SR g ph H s σ ∧ RD g ph H d v ∧ RunG g ph H (m d s C) Q
def tGs (g : G) (ms : List MG) : TGs := fun vs σ H Q => ∃ ph s C ds, Sim g ph C H ∧ SR g ph H s σ ∧ RDs g ph H ds vs ∧ RunG g ph H (tgAll ms ds s C) Q
abbrev JG (g : G) (X : Cx) (t : Expr) (m : MG) : Prop := PG X t (tG g m)
abbrev JGs (g : G) (X : Cx) (t : List Expr) (m : List MG) : Prop := PGs X t (tGs g m)
theorem run_E {α β : Type} {rel : List Addr → Hp → α → β → Prop} {g : G} {E E' : XK} {ph : List Addr} {H : Hp} {r : R α} {Q : β → Hp → Prop} (h : Run rel g E ph H r Q) (f : ∀ c d H, E c d H → E' c d H) : Run rel g E' ph H r Q := by
  cases r with
  | val d C => exact h
  | exc x C => exact fun c d H' ph' p k S x => f _ _ _ (h c d H' ph' p k S x)
  | bad => exact h
theorem PG.imp {X : Cx} {e : Expr} {t t' : TG} (h : PG X e t) (f : ∀ v σ H Q, t' v σ H Q → t v σ H Q) : PG X e t' := ⟨fun pins s σ H v u Q I r q => h.run pins s σ H v u Q I r (f v σ H Q q)⟩
theorem PGs.imp {X : Cx} {e : List Expr} {t t' : TGs} (h : PGs X e t) (f : ∀ v σ H Q, t' v σ H Q → t v σ H Q) : PGs X e t' := ⟨fun pins s σ H v u Q I r q => h.run pins s σ H v u Q I r (f v σ H Q q)⟩
section
variable {g : G} {W : WX} {X : Cx} {pos pos' : Pos} {st : Stmt} {rest : List Stmt} {m m' : MS} {e : Expr} {me : ME}
theorem run_nx {ph : List Addr} {H : Hp} {s : Sl} {C : Hs} {D : Ends} {σ : L2.St} (h : RunS g W ph H (.nx s C) D) (S : Sim g ph C H) (R : SR g ph H s σ) : D.nx σ H := h σ H ph List.prefix_rfl Keep.refl S R
theorem run_seq {ph : List Addr} {H : Hp} {r : RS} {k : MS} {D : Ends} {nx' : L2.St → Hp → Prop} (h : RunS g W ph H (r.seq k) D)
    (f : ∀ σ' H' ph' s C, Pre ph ph' → Keep g H H' → Sim g ph' C H' → SR g ph' H' s σ' → RunS g W ph' H' (k s C) D → nx' σ' H') : RunS g W ph H r { D with nx := nx' } := by
  cases r with
  | nx s C => exact fun σ' H' ph' p kp S R => f σ' H' ph' s C p kp S R (runS_up p kp h)
  | bk s C => exact h
  | ct s C => exact h
  | rt d C => exact h
  | exc x s C => exact h
  | bad => exact h
theorem st_nil : JSs g W X [] sSkip := PSs.imp pss_nil fun D σ H ⟨ph, s, C, S, R, h⟩ => run_nx h S R
theorem st_cons (h1 : JS g W X st m) (h2 : JSs g W X rest m') : JSs g W X (st :: rest) (sSeq m m') :=
  PSs.imp (pss_cons h1 h2) fun D σ H ⟨ph, s, C, S, R, h⟩ => ⟨ph, s, C, S, R, run_seq h fun σ' H' ph' s' C' p k S' R' h' => ⟨ph', s', C', S', R', h'⟩⟩
theorem st_one (h1 : JS g W X st m) : JSs g W X [st] m := pss_one h1
theorem st_pass : JS g W X (.Pass pos) sSkip := PS.imp ps_pass fun D σ H ⟨ph, s, C, S, R, h⟩ => run_nx h S R
theorem st_doc {x j} : JS g W X (.Expr (.Constant (.str x) j pos) pos') sSkip := PS.imp ps_doc fun D σ H ⟨ph, s, C, S, R, h⟩ => run_nx h S R
theorem st_break : JS g W X (.Break pos) sBreak := PS.imp ps_break fun D σ H ⟨ph, s, C, S, R, h⟩ => h σ H ph List.prefix_rfl Keep.refl S R
theorem st_cont : JS g W X (.Continue pos) sCont := PS.imp ps_continue fun D σ H ⟨ph, s, C, S, R, h⟩ => h σ H ph List.prefix_rfl Keep.refl S R
theorem st_expr (he : JE g W X e me) (hs : swapsWith e none pos.line X.env = pure false := by rfl) : JS g W X (.Expr e pos) (sDrop me) :=
  PS.imp (ps_expr he hs) fun D σ H ⟨ph, s, C, S, R, h⟩ => ⟨ph, s, C, S, R, run_stm h R fun v H' ph' d C' p k S' R' r' h' => run_nx h' S' R'⟩
theorem st_ret (he : JE g W X e me) : JS g W X (.Return (some e) pos) (sRet me) :=
  PS.imp (ps_ret he) fun D σ H ⟨ph, s, C, S, R, h⟩ => ⟨ph, s, C, S, R, run_stm h R fun v H' ph' d C' p k S' R' r' h' => h' v H' ph' List.prefix_rfl Keep.refl S' r'⟩
theorem st_retN : JS g W X (.Return none pos) sRetN := PS.imp ps_retN fun D σ H ⟨ph, s, C, S, R, h⟩ => h .non H ph List.prefix_rfl Keep.refl S .non
theorem st_if {c : Expr} {a b : List Stmt} {mc : MB} (hc : JB g W X c mc) (ha : JSs g W X a m) (hb : JSs g W X b m') : JS g W X (.If c a b pos) (sIf mc m m') :=
  PS.imp (ps_if hc ha hb) fun D σ H ⟨ph, s, C, S, R, h⟩ => ⟨ph, s, C, S, R, run_stm h R fun v H' ph' d C' p k S' R' r' h' => by
    cases r'
    cases v with
    | true => exact ⟨ph', s, C', S', R', h'⟩
    | false => exact ⟨ph', s, C', S', R', h'⟩⟩
/-! ## targets -/
theorem g_name {i : Nat} {x : Str} (hN : X.N.Nodup) (hi : X.N[i]? = some x) (hx : Loc X.env.scope x) (hf : X.fn x = true ∨ X.env.scope.names.lookup x = some .local := by first | exact .inl rfl | exact .inr rfl | assumption) : JG g X (.Name x pos) (tgN i) :=
  PG.imp (pg_name hN hi hx hf) fun v σ H Q ⟨ph, s, C, d, S, R, r, h⟩ => h _ H ph List.prefix_rfl Keep.refl S (R.set i r)
theorem g_nil : JGs g X [] [] := PGs.imp pgs_nil fun vs σ H Q ⟨ph, s, C, ds, S, R, r, h⟩ => by
  cases r with
  | nil => exact ⟨rfl, h σ H ph List.prefix_rfl Keep.refl S R⟩
  | cons _ _ => exact h.elim
theorem g_cons {es : List Expr} {t : MG} {ts : List MG} (h1 : JG g X e t) (h2 : JGs g X es ts) (hs : (assignEach (e :: es) X.env).map (·.2) = assign e X.env :: (assignEach es X.env).map (·.2) := by rfl) : JGs g X (e :: es) (t :: ts) :=
  PGs.imp (pgs_cons h1 h2 hs) fun vs σ H Q ⟨ph, s, C, ds, S, R, r, h⟩ => by
    cases r with
    | nil => exact h.elim
    | cons r rs => exact ⟨_, _, rfl, ph, s, C, _, S, R, r, run_bind h fun σ' H' ph' s' C' p k S' R' h' => ⟨ph', s', C', _, S', R', rs.up p k, h'⟩⟩
theorem g_tup {es : List Expr} {k : Nat} {ts : List MG} {n : Nat} (h : JGs g X es ts) (hn : (assignEach es X.env).length = n := by rfl) (hl : ts.length = n := by rfl) (hc : X.calm = true := by rfl) (hst : (assignEach es X.env).findIdx? (·.1) = none := by rfl) (hK : X.K = g.K := by rfl) :
    JG g X (.Tuple es k pos) (tgT ts) :=
  PG.imp (pg_tup hc h hn hst) fun v σ H Q ⟨ph, s, C, d, S, R, r, h⟩ => by
    cases r with
    | tup hs rs =>
      rename_i vs ds a
      unfold tgT at h
      by_cases hd : ds.length = ts.length
      · simp only [if_pos hd] at h
        exact ⟨_, vs, rfl, hK ▸ hs, by rw [← rs.length, hd, hl], ph, s, C, ds, S, R, rs, h⟩
      · simp only [if_neg hd] at h; exact h.elim
    | non => exact h.elim
    | bl _ => exact h.elim
    | int _ => exact h.elim
    | str _ => exact h.elim
    | ref _ => exact h.elim
    | fn _ => exact h.elim
/-- o[i] = d, by values -/
abbrev FSet := D → D → D → Hs → R Unit
def SS (g : G) (f : FSet) (r : TSet) : Prop := ∀ (ph : List Addr) (C : Hs) (H : Hp) (o i d : D) (ov iv v : V) (Q : Hp → Prop), Sim g ph C H → RD g ph H o ov → RD g ph H i iv → RD g ph H d v → Run (fun _ _ (_ : Unit) (_ : Unit) => True) g (fun _ _ _ => False) ph H (f o i d C) (fun _ H' => Q H') → r ov iv v H Q
def tgS (f : FSet) (eo ei : ME) : MG := fun d s C => match eo s C with
  | .val o C1 => match ei s C1 with
    | .val i C2 => match f o i d C2 with
      | .val _ C3 => .val s C3
      | _ => .bad
    | _ => .bad
  | _ => .bad
theorem g_sub {o i : Expr} {mo mi : ME} {f : FSet} {r : TSet} (hf : PSet X r) (hs : SS g f r) (ho : JE g W X o mo) (hi : JE g W X i mi)
    (ha : ∀ v, assign (.Subscript o i pos) X.env v = (do
      let ov ← holding [v] (eval o X.env)
      let iv ← holding [v, ov] (eval i X.env)
      standAt pos
      holding [v, ov, iv] (setItem ov iv v)
      release [v, ov, iv] []) := by intro _; rfl) : JG g X (.Subscript o i pos) (tgS f mo mi) :=
  PG.imp (pg_sub ho hi hf ha) fun v σ H Q ⟨ph, s, C, d, S, R, r, h⟩ => by
    unfold tgS at h
    refine ⟨ph, s, C, S, R, ?_⟩
    cases e1 : mo s C with
    | val o1 C1 =>
      rw [e1] at h
      simp only at h
      refine fun ov H1 ph1 p1 k1 S1 r1 => ⟨ph1, s, C1, S1, R.up p1 k1, ?_⟩
      cases e2 : mi s C1 with
      | val i1 C2 =>
        rw [e2] at h
        simp only at h
        refine fun iv H2 ph2 p2 k2 S2 r2 => hs ph2 C2 H2 o1 i1 d ov iv v _ S2 (r1.up p2 k2) r2 (r.up (p1.trans p2) (k1.trans k2)) ?_
        cases e3 : f o1 i1 d C2 with
        | val u C3 =>
          rw [e3] at h
          exact fun _ H3 ph3 p3 k3 S3 _ => h σ H3 ph3 (p1.trans (p2.trans p3)) (k1.trans (k2.trans k3)) S3 (R.up (p1.trans (p2.trans p3)) (k1.trans (k2.trans k3)))
        | exc x C3 => rw [e3] at h; exact h.elim
        | bad => rw [e3] at h; exact h.elim
      | exc x C2 => rw [e2] at h; exact h.elim
      | bad => rw [e2] at h; exact h.elim
    | exc x C1 => rw [e1] at h; exact h.elim
    | bad => rw [e1] at h; exact h.elim
def setL (o i d : D) (C : Hs) : R Unit := match o, i with
  | .ref p, .int k => match C[p]? with
    | some (.lst xs) => match ixN xs.length k with
      | some j => .val () (C.set p (.lst (xs.set j d)))
      | none => .bad
    | _ => .bad
  | _, _ => .bad
theorem s_setL : SS g setL rSetL := fun ph C H o i d ov iv v Q S ro ri rd q => by
  cases ro <;> first | exact q.elim | skip
  cases ri <;> first | exact q.elim | skip
  rename_i p a e k
  simp only [setL] at q
  split at q
  · next xs hC =>
    split at q
    · next j hj =>
      obtain ⟨vs, h1, rs⟩ := S.get e hC
      rw [rs.length] at hj
      have kp := S.keep (ho := .lst (vs.set j v)) e hC trivial
      refine ⟨a, vs, k, j, rfl, rfl, h1, hj, q () _ ph List.prefix_rfl kp (S.set e hC trivial trivial ⟨_, upd_same, ?_⟩) trivial⟩
      exact RDs.set (rd.up List.prefix_rfl kp) j (rs.up List.prefix_rfl kp)
    · exact q.elim
  · exact q.elim
theorem asg_reads {m : ME} {t : MG} {D : Ends} {σ : L2.St} {H : Hp} (q : tS g W (sAsg m t) D σ H) : tAsg (tJ g W m) (tG g t) D σ H := by
  obtain ⟨ph, s, C, S, R, h⟩ := q
  refine ⟨ph, s, C, S, R, run_stm h R fun v H1 ph1 d C1 p k S1 R1 r1 h1 => ⟨ph1, s, C1, d, S1, R1, r1, ?_⟩⟩
  cases e : t d s C1 with
  | val s' C2 => rw [e] at h1; exact fun σ' H' ph' p k S' R' => h1 σ' H' ph' p k S' R'
  | exc x C2 => rw [e] at h1; exact h1.elim
  | bad => rw [e] at h1; exact h1.elim
theorem st_asg {tg : Expr} {t : MG} (hg : JG g X tg t) (he : JE g W X e me) (hs : swapsWithSole [tg] e pos.line X.env = pure false := by rfl) (hw : swappedStores [tg] e X.env = pure none := by rfl)
    (h1 : (assignEach [tg] X.env).map (·.2) = [assign tg X.env] := by rfl) : JS g W X (.Assign [tg] e pos) (sAsg me t) := PS.imp (ps_asg he hg hs hw h1) fun D σ H q => asg_reads q
theorem name_reads {m : ME} {i : Nat} {D : Ends} {σ : L2.St} {H : Hp} (q : tS g W (sAsg m (tgN i)) D σ H) : tAsg (tJ g W m) (gName i) D σ H := by
  obtain ⟨ph, s, C, S, R, h⟩ := q
  exact ⟨ph, s, C, S, R, run_stm h R fun v H1 ph1 d C1 p k S1 R1 r1 h1 => run_nx h1 S1 (R1.set i r1)⟩
theorem st_set {i : Nat} {x : Str} (hN : X.N.Nodup) (hi : X.N[i]? = some x) (hx : Loc X.env.scope x) (he : JE g W X e me) (hs : swapsWith e (some (.Name x pos')) pos.line X.env = pure false := by rfl) (hf : X.fn x = true ∨ X.env.scope.names.lookup x = some .local := by first | exact .inl rfl | exact .inr rfl | assumption) :
    JS g W X (.Assign [.Name x pos'] e pos) (sAsg me (tgN i)) := PS.imp (ps_set hN hi hx he hs hf) fun D σ H q => name_reads q
/-- a, b = x, y with plain local names -/
def sPar (i j : Nat) (l : ML) : MS := fun s C => (l s C).stm s fun ds C1 => match ds with | [d, e] => .nx ((s.set i (some d)).set j (some e)) C1 | _ => .bad
theorem st_par {i j : Nat} {x y : Str} {a b : Expr} {l : ML} {px py pt : Pos} {kt k2 pt2} (hN : X.N.Nodup) (hi : X.N[i]? = some x) (hj : X.N[j]? = some y) (hij : i ≠ j)
    (hx : X.env.scope.names.lookup x = some .local) (hy : X.env.scope.names.lookup y = some .local) (ha : JL g W X [a, b] l)
    (hw : swappedStores [.Tuple [.Name x px, .Name y py] kt pt] (.Tuple [a, b] k2 pt2) X.env = pure (some [x, y]) := by rfl)
    (hs : swapsWithSole [.Tuple [.Name x px, .Name y py] kt pt] (.Tuple [a, b] k2 pt2) pos.line X.env = pure false := by rfl) (hc : X.calm = true := by rfl) :
    JS g W X (.Assign [.Tuple [.Name x px, .Name y py] kt pt] (.Tuple [a, b] k2 pt2) pos) (sPar i j l) :=
  PS.imp (ps_par hc hN hi hj hij hx hy ha hw hs) fun D σ H ⟨ph, s, C, S, R, h⟩ => ⟨ph, s, C, S, R, run_stm h R fun vs H1 ph1 ds C1 p k S1 R1 r1 h1 => by
    cases r1 with
    | nil => exact h1.elim
    | cons a r =>
      cases r with
      | nil => exact h1.elim
      | cons b r =>
        cases r with
        | nil => exact ⟨_, _, rfl, run_nx h1 S1 ((R1.set i a).set j b)⟩
        | cons _ _ => exact h1.elim⟩
/-- x op= e -/
def sAug (i : Nat) (f : D → D → Hs → R D) (m : ME) : MS := fun s C => match s[i]? with
  | some (some x) => (m s C).stm s fun y C1 => (f x y C1).stm s fun z C2 => .nx (s.set i (some z)) C2
  | _ => .bad
theorem st_aug {i : Nat} {x : Str} {op : Operator} {f : D → D → Hs → R D} {r : R2} (ho : OpR X (inplaceOp op) r) (hS : S2 g f r) (hN : X.N.Nodup) (hi : X.N[i]? = some x) (hx : Loc X.env.scope x) (he : JE g W X e me)
    (hf : X.fn x = true ∨ X.env.scope.names.lookup x = some .local := by first | exact .inl rfl | exact .inr rfl | assumption) : JS g W X (.AugAssign (.Name x pos') op e pos) (sAug i f me) :=
  PS.imp (ps_aug (ti := r) hN hi hx he (fun pins s σ H x y v u Q I r1 r2 h => ho pins s σ H x y v u Q I r1 r2 h) hf) fun D σ H ⟨ph, s, C, S, R, h⟩ => by
    unfold sAug at h
    split at h
    · next d e =>
      obtain ⟨v, e2, rd⟩ := R.2 i d e
      refine ⟨v, e2, ph, s, C, S, R, run_stm h R fun w H1 ph1 y C1 p k S1 R1 r1 h1 => ?_⟩
      refine hS ph1 C1 H1 d y v w _ (fun c d H' => W c d σ H') S1 (rd.up p k) r1 (run_stm h1 R1 fun z H2 ph2 z' C2 p2 k2 S2 R2 r2 h2 => run_nx h2 S2 (R2.set i r2))
    · exact h.elim
end
end Mp
namespace Mp
open PySem PySem.Spec PyProof.Rows L2
/-! # while -/
def loopW (c : MB) (b : MS) : Nat → MS
  | 0, _, _ => .bad
  | n + 1, s, C => (c s C).stm s fun t C1 => if t = true then
      match b s C1 with
      | .nx s' C' => loopW c b n s' C'
      | .ct s' C' => loopW c b n s' C'
      | .bk s' C' => .nx s' C'
      | r => r
    else .nx s C1
/-- a loop has at most so many turns -/
def fuelW : Nat := 1000000
def sWhile (c : MB) (b : MS) : MS := loopW c b fuelW
section
variable {g : G} {W : WX} {X : Cx} {pos : Pos}
theorem st_while {c : Expr} {body : List Stmt} {mc : MB} {mb : MS} (hp : PassesOwn (model X.prog X.w) X.A X.env X.xe) (hc : JB g W X c mc) (hb : JSs g W X body mb) : JS g W X (.While c body [] pos) (sWhile mc mb) :=
  PS.imp (ps_while hp hc hb) fun D σ H ⟨ph, s, C, S, R, h⟩ => by
    refine ⟨fun n σ H => ∃ ph s C, Sim g ph C H ∧ SR g ph H s σ ∧ RunS g W ph H (loopW mc mb n s C) D, ⟨fuelW, ph, s, C, S, R, h⟩, ?_⟩
    rintro n σ H ⟨ph, s, C, S, R, h⟩
    cases n with
    | zero => exact h.elim
    | succ n =>
      refine ⟨ph, s, C, S, R, run_stm h R fun t H1 ph1 t' C1 p k S1 R1 r1 h1 => ?_⟩
      cases r1
      cases t with
      | false => exact run_nx h1 S1 R1
      | true =>
        rw [if_pos rfl] at h1 ⊢
        refine ⟨fun σ' H' => ∃ ph s C, Sim g ph C H' ∧ SR g ph H' s σ' ∧ RunS g W ph H' (loopW mc mb n s C) D, fun σ' H' q => ⟨n, Nat.lt_succ_self n, q⟩, ph1, s, C1, S1, R1, ?_⟩
        cases e : mb s C1 with
        | nx s' C' => rw [e] at h1; exact fun σ' H' ph' p k S' R' => ⟨ph', s', C', S', R', runS_up p k h1⟩
        | ct s' C' => rw [e] at h1; exact fun σ' H' ph' p k S' R' => ⟨ph', s', C', S', R', runS_up p k h1⟩
        | bk s' C' => rw [e] at h1; exact h1
        | rt d C' => rw [e] at h1; exact h1
        | exc x s' C' => rw [e] at h1; exact h1
        | bad => rw [e] at h1; exact h1
end

/-! # what is walked -/
inductive Nx where
  | item (d : D) | stop | bad
structure Itm where
  fuel : Nat
  nxt : Nat → Hs → Nx
abbrev MI := Sl → Hs → R Itm
/-- an iterator of ours and the layer's -/
def ItR (g : G) (ph0 : List Addr) (H0 : Hp) (it : Itm) (J : It) : Prop := ∀ (i : Nat) (ph : List Addr) (C : Hs) (H : Hp), Pre ph0 ph → Keep g H0 H → Sim g ph C H → match it.nxt i C with
  | .stop => J.stop i H
  | .item d => J.go i H ∧ ∀ x H', J.yld i H x H' → Keep g H H' ∧ Sim g ph C H' ∧ RD g ph H' d x
  | .bad => True
def tI (g : G) (W : WX) (m : MI) : TI := fun σ H Q => ∃ ph s C, Sim g ph C H ∧ SR g ph H s σ ∧ Run (fun p h it J => ItR g p h it J) g (fun c d H' => W c d σ H') ph H (m s C) (fun J H' => Q J H')
abbrev JI (g : G) (W : WX) (X : Cx) (tg iter : Expr) (m : MI) : Prop := PI X tg iter (tI g W m)
theorem PI.imp {X : Cx} {tg e : Expr} {t t' : TI} (h : PI X tg e t) (f : ∀ σ H Q, t' σ H Q → t σ H Q) : PI X tg e t' := ⟨fun pins s σ H Q I q => h.run pins s σ H Q I (f σ H Q q)⟩
def loopF (it : Itm) (t : MG) (b : MS) : Nat → Nat → MS
  | 0, _, _, _ => .bad
  | n + 1, i, s, C => match it.nxt i C with
    | .stop => .nx s C
    | .bad => .bad
    | .item d => match t d s C with
      | .val s1 C1 => match b s1 C1 with
        | .nx s' C' => loopF it t b n (i + 1) s' C'
        | .ct s' C' => loopF it t b n (i + 1) s' C'
        | .bk s' C' => .nx s' C'
        | r => r
      | _ => .bad
def sFor (m : MI) (t : MG) (b : MS) : MS := fun s C => (m s C).stm s fun it C1 => loopF it t b it.fuel 0 s C1
section
variable {g : G} {W : WX} {X : Cx} {pos : Pos} {tg iter : Expr}
theorem st_for {body : List Stmt} {mi : MI} {t : MG} {mb : MS} (hp : PassesOwn (model X.prog X.w) X.A X.env X.xe) (hi : JI g W X tg iter mi) (hg : JG g X tg t) (hb : JSs g W X body mb) (hc : X.calm = true := by rfl)
    (hs : ∀ x, foldedSetIterable iter X.env x = pure x := by intro _; rfl) : JS g W X (.For tg iter body [] pos) (sFor mi t mb) :=
  PS.imp (ps_for hp hc hi hg hb hs) fun D σ H ⟨ph, s, C, S, R, h⟩ => by
    refine ⟨ph, s, C, S, R, run_stm h R fun J H1 ph1 it C1 p k S1 R1 r1 h1 => ?_⟩
    refine ⟨fun i n σ H => ∃ ph s C, Pre ph1 ph ∧ Keep g H1 H ∧ Sim g ph C H ∧ SR g ph H s σ ∧ RunS g W ph H (loopF it t mb n i s C) D, ⟨it.fuel, ph1, s, C1, List.prefix_rfl, Keep.refl, S1, R1, h1⟩, ?_⟩
    rintro i n σ H ⟨ph, s, C, p0, k0, S, R, h⟩
    cases n with
    | zero => exact h.elim
    | succ n =>
      have q := r1 i ph C H p0 k0 S
      unfold loopF at h
      cases e : it.nxt i C with
      | stop =>
        rw [e] at q h
        exact .inl ⟨q, run_nx h S R⟩
      | bad => rw [e] at h; exact h.elim
      | item d =>
        rw [e] at q h
        refine .inr ⟨q.1, fun σ' H' => ∃ ph s C, Pre ph1 ph ∧ Keep g H1 H' ∧ Sim g ph C H' ∧ SR g ph H' s σ' ∧ RunS g W ph H' (loopF it t mb n (i + 1) s C) D, fun σ' H' q => ⟨n, Nat.lt_succ_self n, q⟩, fun x H' y => ?_⟩
        obtain ⟨k1, S', rd⟩ := q.2 x H' y
        refine ⟨ph, s, C, d, S', R.up List.prefix_rfl k1, rd, ?_⟩
        simp only at h
        have h := runS_up List.prefix_rfl k1 h
        cases e2 : t d s C with
        | val s1 C1 =>
          rw [e2] at h
          simp only at h
          refine fun σ2 H2 ph2 p2 k2 S2 R2 => ⟨ph2, s1, C1, S2, R2, ?_⟩
          have h := runS_up p2 k2 h
          cases e3 : mb s1 C1 with
          | nx s' C' => rw [e3] at h; exact fun σ3 H3 ph3 p3 k3 S3 R3 => ⟨ph3, s', C', p0.trans (p2.trans p3), k0.trans (k1.trans (k2.trans k3)), S3, R3, runS_up p3 k3 h⟩
          | ct s' C' => rw [e3] at h; exact fun σ3 H3 ph3 p3 k3 S3 R3 => ⟨ph3, s', C', p0.trans (p2.trans p3), k0.trans (k1.trans (k2.trans k3)), S3, R3, runS_up p3 k3 h⟩
          | bk s' C' => rw [e3] at h; exact h
          | rt d C' => rw [e3] at h; exact h
          | exc x s' C' => rw [e3] at h; exact h
          | bad => rw [e3] at h; exact h
        | exc x C1 => rw [e2] at h; exact h.elim
        | bad => rw [e2] at h; exact h.elim
/-! ## a list or a tuple; a range -/
def nxSeq (d : D) (i : Nat) (C : Hs) : Nx := match itemsOf C d with
  | some ds => match ds[i]? with | some x => .item x | none => .stop
  | none => .bad
def iSeq (m : ME) : MI := fun s C => (m s C).bind fun d C1 => match itemsOf C1 d with
  | some ds => .val ⟨ds.length + 1, nxSeq d⟩ C1
  | none => .bad
/-- what both kinds of walk say -/
def iSeqT (K : PySem.W.Frag) (tl : TE) : TI := fun σ H Q => tl σ H fun x H1 => ∃ a, x = .ref a ∧ (((∃ xs, SqL K H1 a xs) ∧ Q (Itl K a) H1) ∨ ((∃ xs, SqT K H1 a xs) ∧ Q (Itt K a) H1))
theorem pi_seq {l : Expr} {tl : TE} (hl : PE X l tl) : PI X tg l (iSeqT X.K tl) := ⟨fun pins s σ H Q I h => by
  refine thn (hl.run pins s σ H _ I h) ?_
  rintro v s1 ⟨x, H1, I1, r1, a, rfl, q⟩
  cases r1
  have fr : ∀ {h' : Heap} (hh : h'.objs.size = s1.heap.objs.size + 1), H1 s1.heap.objs.size = none := fun _ => I1.hok.fresh (Nat.le_refl _)
  have fp : ∀ b ∈ [s1.heap.objs.size], FpOk X pins H1 b := fun b hb => by
    rw [List.mem_singleton.mp hb]
    exact I1.fpOk (Nat.le_refl _) (I1.hok.fresh (Nat.le_refl _))
  rcases q with ⟨⟨xs, hq⟩, q⟩ | ⟨⟨xs, hq⟩, q⟩
  · obtain ⟨its, _, p, _⟩ := I1.list hq
    exact wpAny_pyIter_list p.isList ⟨_, _, _, _, H1, rfl, I1.kept (t' := s1.toks) (fun b o e => Heap.get?_push_of_some _ e), turn_list a s1.heap.objs.size, ⟨_, Heap.get?_push_size _ rfl, rfl, rfl⟩, fp, q⟩
  · obtain ⟨its, _, p, _⟩ := I1.tuple hq
    exact wpAny_pyIter_tuple (show s1.heap.IsTuple a its.toArray from p) ⟨_, _, _, _, H1, rfl, I1.kept (t' := s1.toks) (fun b o e => Heap.get?_push_of_some _ e), turn_tuple a s1.heap.objs.size, ⟨_, Heap.get?_push_size _ rfl, rfl, rfl⟩, fp, q⟩⟩
theorem itl_of {ph : List Addr} {H : Hp} {i : Nat} {a : Addr} {n : Nat} (e : ph[i]? = some a) : ItR g ph H ⟨n, nxSeq (.ref i)⟩ (Itl g.K a) := fun j ph' C H' p k S => by
  simp only [nxSeq, itemsOf]
  have e' := p.get e
  have go : ∀ ds, (C[i]? = some (.lst ds) ∨ C[i]? = some (.frz ds)) → match (match ds[j]? with | some x => Nx.item x | none => .stop) with
      | .stop => (Itl g.K a).stop j H'
      | .item d => (Itl g.K a).go j H' ∧ ∀ x H1, (Itl g.K a).yld j H' x H1 → Keep g H' H1 ∧ Sim g ph' C H1 ∧ RD g ph' H1 d x
      | .bad => True := fun ds hC => by
    obtain ⟨vs, hs, rs⟩ := frz_seq S e' hC
    cases ej : ds[j]? with
    | none => exact ⟨vs, hs, by rw [← rs.length]; exact List.getElem?_eq_none_iff.mp ej⟩
    | some d =>
      obtain ⟨v, hv, rv⟩ := rs.get ej
      refine ⟨⟨vs, v, hs, hv⟩, fun x H1 hy => ?_⟩
      obtain ⟨rfl, f⟩ := hy
      have := f vs hs
      rw [hv] at this
      cases this
      exact ⟨Keep.refl, S, rv⟩
  cases hC : C[i]? with
  | none => trivial
  | some o =>
    cases o with
    | lst ds => exact go ds (.inl hC)
    | frz ds => exact go ds (.inr hC)
    | dic _ => trivial
    | dit _ => trivial
    | ins _ _ => trivial
theorem itt_of {ph : List Addr} {H : Hp} {ds : List D} {vs : List V} {a : Addr} {n : Nat} (hs : SqT g.K H a vs) (rs : RDs g ph H ds vs) : ItR g ph H ⟨n, nxSeq (.tup ds)⟩ (Itt g.K a) := fun j ph' C H' p k S => by
  simp only [nxSeq, itemsOf]
  have hs' := k _ _ hs
  have rs' := rs.up p k
  cases ej : ds[j]? with
  | none => exact ⟨vs, hs', by rw [← rs.length]; exact List.getElem?_eq_none_iff.mp ej⟩
  | some d =>
    obtain ⟨v, hv, rv⟩ := rs'.get ej
    refine ⟨⟨vs, v, hs', hv⟩, fun x H1 hy => ?_⟩
    obtain ⟨rfl, f⟩ := hy
    have := f vs hs'
    rw [hv] at this
    cases this
    exact ⟨Keep.refl, S, rv⟩
theorem i_seq {e : Expr} {m : ME} (he : JE g W X e m) (hK : X.K = g.K := by rfl) : JI g W X tg e (iSeq m) :=
  PI.imp (pi_seq he) fun σ H Q ⟨ph, s, C, S, R, h⟩ => ⟨ph, s, C, S, R, run_bind h fun v H1 ph1 d C1 p k S1 r1 h1 => by
    cases r1 with
    | tup hs rs => exact ⟨_, rfl, .inr ⟨⟨_, hK ▸ hs⟩, hK ▸ run_val h1 S1 (itt_of hs rs)⟩⟩
    | ref e =>
      rename_i i a
      simp only [itemsOf] at h1
      refine ⟨a, rfl, .inl ?_⟩
      split at h1
      · next ds hC =>
        split at hC
        · next ds' hC' => exact ⟨(let ⟨vs, q, _⟩ := frz_seq S1 e (.inl hC'); ⟨vs, hK ▸ q⟩), hK ▸ run_val h1 S1 (itl_of e)⟩
        · next ds' hC' => exact ⟨(let ⟨vs, q, _⟩ := frz_seq S1 e (.inr hC'); ⟨vs, hK ▸ q⟩), hK ▸ run_val h1 S1 (itl_of e)⟩
        · cases hC
      · exact h1.elim
    | non => exact h1.elim
    | bl _ => exact h1.elim
    | int _ => exact h1.elim
    | str _ => exact h1.elim
    | fn _ => exact h1.elim⟩
def nxRng (lo : Int) (n : Nat) (i : Nat) (_ : Hs) : Nx := if i < n then .item (.int (lo + i)) else .stop
def iRng (l : ML) : MI := fun s C => (l s C).bind fun ds C1 => match ds with
  | [.int j] => if -(2 ^ 62) ≤ j ∧ j < 2 ^ 62 then .val ⟨j.toNat + 1, nxRng 0 j.toNat⟩ C1 else .bad
  | _ => .bad
def iRng2 (l : ML) : MI := fun s C => (l s C).bind fun ds C1 => match ds with
  | [.int i, .int j] => if -(2 ^ 62) ≤ i ∧ i < 2 ^ 62 ∧ -(2 ^ 62) ≤ j ∧ j < 2 ^ 62 then .val ⟨(j - i).toNat + 1, nxRng i (j - i).toNat⟩ C1 else .bad
  | _ => .bad
theorem itr_of {ph : List Addr} {H : Hp} {lo : Int} {n m : Nat} : ItR g ph H ⟨m, nxRng lo n⟩ (Itr lo n) := fun j ph' C H' p k S => by
  simp only [nxRng]
  by_cases hj : j < n
  · simp only [if_pos hj]
    refine ⟨hj, fun x H1 hy => ?_⟩
    obtain ⟨rfl, rfl⟩ := hy
    exact ⟨Keep.refl, S, .int _⟩
  · simp only [if_neg hj]
    exact Nat.le_of_not_lt hj
theorem i_rng {a : Expr} {l : ML} {p pos : Pos} (hg : Gl X "range") (hm : g.mg "range" = none) (ha : JL g W X [a] l) (hM : X.mg = g.mg := by rfl) (hs : starEach [a] X.env = [(false, eval a X.env)] := by rfl) : JI g W X tg (.Call (.Name "range" p) [a] [] pos) (iRng l) :=
  PI.imp (pi_range1 hg (hM ▸ hm) ha hs) fun σ H Q ⟨ph, s, C, S, R, h⟩ => ⟨ph, s, C, S, R, run_bind h fun vs H1 ph1 ds C1 p k S1 r1 h1 => by
    split at h1
    · next j =>
      cases r1 with
      | cons a b =>
        cases a; cases b
        by_cases hj : -(2 ^ 62) ≤ j ∧ j < 2 ^ 62
        · rw [if_pos hj] at h1
          exact ⟨j, rfl, hj.1, hj.2, run_val h1 S1 itr_of⟩
        · rw [if_neg hj] at h1; exact h1.elim
    · exact h1.elim⟩
theorem i_rng2 {a b : Expr} {l : ML} {p pos : Pos} (hg : Gl X "range") (hm : g.mg "range" = none) (ha : JL g W X [a, b] l) (hM : X.mg = g.mg := by rfl) (hs : starEach [a, b] X.env = [(false, eval a X.env), (false, eval b X.env)] := by rfl) (hs2 : starEach [b] X.env = [(false, eval b X.env)] := by rfl) : JI g W X tg (.Call (.Name "range" p) [a, b] [] pos) (iRng2 l) :=
  PI.imp (pi_range2 hg (hM ▸ hm) ha hs hs2) fun σ H Q ⟨ph, s, C, S, R, h⟩ => ⟨ph, s, C, S, R, run_bind h fun vs H1 ph1 ds C1 p k S1 r1 h1 => by
    split at h1
    · next i j =>
      cases r1 with
      | cons a b =>
        cases b with
        | cons b c =>
          cases a; cases b; cases c
          by_cases hj : -(2 ^ 62) ≤ i ∧ i < 2 ^ 62 ∧ -(2 ^ 62) ≤ j ∧ j < 2 ^ 62
          · rw [if_pos hj] at h1
            exact ⟨i, j, rfl, hj, run_val h1 S1 itr_of⟩
          · rw [if_neg hj] at h1; exact h1.elim
    · exact h1.elim⟩
end

/-! # defs: a promise by a function of ours -/
def spM (g : G) (n : Nat) (F : List D → Hs → R D) : Sp := fun vs H Q E => vs.length = n ∧ ∃ ph C ds, Sim g ph C H ∧ RDs g ph H ds vs ∧ RunE g E ph H (F ds C) Q
/-- a def's body as a function: n parameters, L names -/
def fnF (n L : Nat) (m : MS) : List D → Hs → R D := fun ds C => if ds.length = n then match m (ds.map some ++ List.replicate (L - n) none) C with
    | .nx _ C' => .val .non C'
    | .rt d C' => .val d C'
    | .exc x _ C' => .exc x C'
    | _ => .bad
  else .bad
theorem fnF_len {n L : Nat} {m : MS} {ds : List D} {C : Hs} (h : ds.length ≠ n) : fnF n L m ds C = .bad := by unfold fnF; rw [if_neg h]
theorem start_sr {g : G} {ph : List Addr} {H : Hp} {ds : List D} {vs : List V} {N : List Str} (r : RDs g ph H ds vs) : SR g ph H (ds.map some ++ List.replicate (N.length - ds.length) none) (L2.start N vs) := by
  have hl := r.length
  refine ⟨by unfold L2.start; simp [hl], fun i d h => ?_⟩
  unfold L2.start
  by_cases hi : i < ds.length
  · rw [List.getElem?_append_left (by simpa using hi)] at h
    rw [List.getElem?_append_left (by simpa [← hl] using hi)]
    rw [List.getElem?_map] at h ⊢
    cases e : ds[i]? with
    | none => rw [e] at h; cases h
    | some d' =>
      rw [e] at h
      cases h
      obtain ⟨v, hv, rv⟩ := r.get e
      exact ⟨v, by rw [hv]; rfl, rv⟩
  · rw [List.getElem?_append_right (by simpa using hi)] at h
    rw [List.getElem?_replicate] at h
    split at h <;> cases h
/-- the ground of a run: program, world, base -/
structure B where
  prog : Program
  w : World
  base : Heap
/-- a def of the text keeps the promise of its body -/
def Ok (b : B) (g : G) (k : Nat) (f : Addr) (fd : FuncData) (ps : List Str) (F : List D → Hs → R D) : Prop := FnOk b.prog b.w g.K g.mg b.base (L2.CX b.prog b.w) k f fd ps (spM g ps.length F)
/-- the context of a def's body -/
abbrev CxF (b : B) (g : G) (N : List Str) (qual : Str) (sc : Scope) (f : Addr) (cd : Value) (A : Around) (outer : List Env) (s : Shared) (H : Hp) (E : XK) : Cx := cxOf (L2.CX b.prog b.w) b.prog b.w g.K g.mg b.base N qual sc f cd A outer s H E
theorem ok_fn {b : B} {g : G} {k : Nat} {x qual : Str} {params : Arguments} {body : List Stmt} {sc : Scope} {dvs : List V} {kws : List (Str × V)} {f : Addr} {fd : FuncData} {N ps : List Str} {m : MS} (F : FunD g.K x qual params body sc dvs kws f fd) (S : FnScope N ps sc)
    (h : ∀ (cdv : Value) (A : Around) (outer : List Env) (s : Shared) (H : Hp) (E : XK), Room k (A.deeper (envOfC qual sc s.heap.objs.size f cdv)) → Takes (CxF b g N qual sc f cdv A outer s H E) (fun cls d _ H' => E cls d H') →
      PassesOwn (model b.prog b.w) (A.deeper (envOfC qual sc s.heap.objs.size f cdv)) (envOfC qual sc s.heap.objs.size f cdv) (CxF b g N qual sc f cdv A outer s H E).xe → JSs g (fun cls d _ H' => E cls d H') (CxF b g N qual sc f cdv A outer s H E) body m) :
    Ok b g (k + 1) f fd ps (fnF ps.length N.length m) := by
  refine FunD.ok F S (fun vs H Q E q => q.1) fun cdv A outer s H vs Q E hr q => ?_
  obtain ⟨hl, ph, C, ds, Si, rs, q⟩ := q
  refine ⟨_, h cdv A outer s H E hr (takes_of rfl rfl rfl rfl) (passes_of rfl), ph, _, C, Si, start_sr (N := N) rs, ?_⟩
  have hd : ds.length = ps.length := by rw [rs.length]; exact hl
  unfold fnF at q
  rw [if_pos hd] at q
  rw [hd]
  cases e : m (ds.map some ++ List.replicate (N.length - ps.length) none) C with
  | nx s' C' => rw [e] at q; exact fun σ' H' ph' p k S' R' => q .non H' ph' p k S' .non
  | rt d C' => rw [e] at q; exact q
  | exc x s' C' => rw [e] at q; exact fun c d σ' H' ph' p k S' R' x => q c d H' ph' p k S' x
  | bk s' C' => rw [e] at q; exact q.elim
  | ct s' C' => rw [e] at q; exact q.elim
  | bad => rw [e] at q; exact q.elim
section
variable {b : B} {g : G} {W : WX} {X : Cx} {k : Nat} {f : Addr} {fd : FuncData} {ps : List Str} {F : List D → Hs → R D} {x : Str} {p pos : Pos} {e : Expr} {es : List Expr} {l : ML} {dd : List D} {ds : List Value} {dvs : List V}
/-- f(e, ..); dd: the defaults that fill up -/
def eFn (F : List D → Hs → R D) (dd : List D) (l : ML) : ME := fun s C => (l s C).bind fun xs C1 => F (xs ++ dd) C1
theorem j_fn (O : Ok b g k f fd ps F) (hF : ∀ xs C, xs.length ≠ ps.length → F xs C = .bad) (hr : Room k X.A) (hx : ∀ σ, PassesAt (L2.CX X.prog X.w) X σ (WE W σ)) (hg : Gl X x) (hm : g.mg x = some (.ref f)) (hk : PySem.W.keepIn g.K (.ref f) = true) (hb : Binds g.K fd ps ds) (hd : Vals dvs ds) (hdd : ∀ ph H, RDs g ph H dd dvs) (ha : JL g W X (e :: es) l)
    (hX : X.prog = b.prog ∧ X.w = b.w ∧ X.K = g.K ∧ X.mg = g.mg ∧ X.base = b.base := by exact ⟨rfl, rfl, rfl, rfl, rfl⟩) (hdb : (x == ("__debug__" : Str)) = false := by decide)
    (he : starEach (e :: es) X.env = (false, eval e X.env) :: starEach es X.env := by rfl) (hpl : (backTo pos (starEach es X.env)).any (·.1) = false := by rfl) : JE g W X (.Call (.Name x p) (e :: es) [] pos) (eFn F dd l) := by
  obtain ⟨h1, h2, h3, h4, h5⟩ := hX
  unfold Ok at O
  rw [← h1, ← h2, ← h3, ← h4, ← h5] at O
  refine PE.imp (pe_callSD (E := WE W) O hr hg (h4 ▸ hm) (h3 ▸ hk) (h3 ▸ hb) hd hx ha hdb he hpl) fun σ H Q ⟨ph, s, C, S, R, h⟩ => ⟨ph, s, C, S, R, run_bind h fun vs H1 ph1 xs C1 p k S1 r1 h1 => ?_⟩
  have r2 := r1.append (hdd ph1 H1)
  refine ⟨?_, ph1, C1, _, S1, r2, h1⟩
  rw [← r2.length]
  by_cases z : (xs ++ dd).length = ps.length
  · exact z
  · rw [hF _ _ z] at h1; exact h1.elim
/-- f() -/
def eFn0 (F : List D → Hs → R D) (dd : List D) : ME := fun _ C => F dd C
theorem j_fn0 (O : Ok b g k f fd ps F) (hF : ∀ xs C, xs.length ≠ ps.length → F xs C = .bad) (hr : Room k X.A) (hx : ∀ σ, PassesAt (L2.CX X.prog X.w) X σ (WE W σ)) (hg : Gl X x) (hm : g.mg x = some (.ref f)) (hk : PySem.W.keepIn g.K (.ref f) = true) (hb : Binds g.K fd ps ds) (hd : Vals dvs ds) (hdd : ∀ ph H, RDs g ph H dd dvs)
    (hX : X.prog = b.prog ∧ X.w = b.w ∧ X.K = g.K ∧ X.mg = g.mg ∧ X.base = b.base := by exact ⟨rfl, rfl, rfl, rfl, rfl⟩) (hdb : (x == ("__debug__" : Str)) = false := by decide) : JE g W X (.Call (.Name x p) [] [] pos) (eFn0 F dd) := by
  obtain ⟨h1, h2, h3, h4, h5⟩ := hX
  unfold Ok at O
  rw [← h1, ← h2, ← h3, ← h4, ← h5] at O
  refine ⟨fun pins s σ H Q I ⟨ph, sl, C, S, R, h⟩ => ?_⟩
  refine wpAny_Call_Name_kw (ld_glob I hg (h4 ▸ hm) ?_ hdb)
  have h : RunE g (WE W σ) ph H (F dd C) Q := h
  refine PySem.W.callWith_K0 I.kIn (h3 ▸ hk) (run_fnSD (us := []) (vs := []) O hr (h3 ▸ hb) hd (hx σ) I .nil ⟨?_, ph, C, dd, S, hdd ph H, h⟩)
  rw [List.nil_append, ← (hdd ph H).length]
  by_cases z : dd.length = ps.length
  · exact z
  · rw [hF _ _ z] at h; exact h.elim
end
end Mp
namespace Mp
open PySem PySem.Spec PyProof.Rows L2
/-! # a local name that holds a def -/
def eFnL (i : Nat) (disp : Nat → List D → Hs → R D) (l : ML) : ME := fun s C => match s[i]? with
  | some (some (.fn j)) => (l s C).bind fun xs C1 => disp j xs C1
  | _ => .bad
section
variable {b : B} {g : G} {W : WX} {X : Cx} {k : Nat} {x : Str} {p pos : Pos} {e : Expr} {es : List Expr} {l : ML}
theorem j_fnL {disp : Nat → List D → Hs → R D} (i : Nat) (hJ : ∀ j a, g.fa j = some a → ∃ fd ps, Ok b g k a fd ps (disp j) ∧ (∀ xs C, xs.length ≠ ps.length → disp j xs C = .bad) ∧ PySem.W.keepIn g.K (.ref a) = true ∧ Binds g.K fd ps [])
    (hr : Room k X.A) (tk : ∀ σ, PassesAt (L2.CX X.prog X.w) X σ (WE W σ)) (hN : X.N[i]? = some x) (hv : Vis X.env.scope x) (ha : JL g W X (e :: es) l)
    (hX : X.prog = b.prog ∧ X.w = b.w ∧ X.K = g.K ∧ X.mg = g.mg ∧ X.base = b.base := by exact ⟨rfl, rfl, rfl, rfl, rfl⟩) (hdb : (x == ("__debug__" : Str)) = false := by decide) (hcd : (x == ("__classdict__" : Str)) = false := by decide)
    (he : starEach (e :: es) X.env = (false, eval e X.env) :: starEach es X.env := by rfl) (hpl : (backTo pos (starEach es X.env)).any (·.1) = false := by rfl) : JE g W X (.Call (.Name x p) (e :: es) [] pos) (eFnL i disp l) := by
  obtain ⟨h1, h2, h3, h4, h5⟩ := hX
  refine ⟨fun pins s σ H Q I ⟨ph, sl, C, S, R, h⟩ => ?_⟩
  unfold eFnL at h
  split at h
  · next j ej =>
    obtain ⟨v, ev, rv⟩ := R.2 i _ ej
    cases rv with
    | fn ea =>
      rename_i a
      obtain ⟨fd, ps, O, hF, hk, hb⟩ := hJ j a ea
      unfold Ok at O
      rw [← h1, ← h2, ← h3, ← h4, ← h5] at O
      refine wpAny_Call_Name_kw (thn ((pe_var (pos := p) hN hv hdb hcd).run pins s σ H (fun v H1 => v = .ref a ∧ H1 = H) I ⟨.ref a, ev, rfl, rfl⟩) fun u s1 hu => ?_)
      obtain ⟨v, H1, I1, r1, rfl, rfl⟩ := hu
      cases r1
      have hl : tL g W l σ H1 fun vs H2 => spM g ps.length (disp j) (vs ++ []) H2 Q (WE W σ) := ⟨ph, sl, C, S, R, run_bind h fun vs H2 ph2 xs C2 p2 k2 S2 r2 q2 => by
        rw [List.append_nil]
        refine ⟨?_, ph2, C2, xs, S2, r2, q2⟩
        rw [← r2.length]
        by_cases z : xs.length = ps.length
        · exact z
        · rw [hF _ _ z] at q2; exact q2.elim⟩
      refine PySem.W.callWith_K (h₀ := X.base) I1.ok.mod.kin (h3 ▸ hk) (thn (ha.run pos pins s1 σ H1 _ I1 hl) fun us s2 hu => ?_) he hpl
      obtain ⟨vs, H2, I2, r2, q2⟩ := hu
      exact ⟨I2.kIn, run_fnSD O hr (h3 ▸ hb) .nil (tk σ) I2 r2 q2⟩
  · exact h.elim
end

/-! # raise -/
def sRaise (c : Str) : MS := fun s C => .exc ⟨c, []⟩ s C
/-- raise c(e, ..), whose __init__ keeps the arguments under the names fs -/
def sRaiseA (c : Str) (fs : List Str) (l : ML) : MS := fun s C => (l s C).stm s fun ds C1 => if ds.length = fs.length ∧ fs.length ≤ 100 then .exc ⟨c, (fs.zip ds).reverse⟩ s C1 else .bad
section
variable {b : B} {g : G} {W : WX} {X : Cx} {k : Nat} {x : Str} {p pos pos' : Pos} {e : Expr} {es : List Expr} {l : ML} {C : Addr}
/-- x(), x a class over ValueError without own __init__ -/
theorem pmk_own0 (q : PySem.W.excIn X.K C [.type "ValueError", .type "Exception", .type "BaseException", .type "object"] "ValueError.__new__" = true) (gC : X.mg x = some (.ref C)) (kC : PySem.W.keepIn X.K (.ref C) = true) (r : Raises X (.ref C)) (hg : Gl X x)
    (hdb : (x == ("__debug__" : Str)) = false := by decide) : PMk X (.Call (.Name x p) [] [] pos) (fun _ H Q => Q (.ref C) none H) := by
  intro pins s σ H Q I h
  refine wpAny_Call_Name_kw (ld_glob I hg gC ?_ hdb)
  refine PySem.W.callWith_K0 I.kIn kC ?_
  show wpAny _ _ (call (.ref C) []) _ _ _
  obtain ⟨bm, N, nm, qn, bs, hdct, sn, sub, ab, col, dd, k0, k1, k2, k3, k5, mN, hC, hN, hni, T⟩ := exc_obj I.kIn q
  refine wpAny_call_exc_subT PySem.F.excBase_ValueError T hC hN hni (fun h' e hm => mk_of I hm r h (I.hok.gone hm.new)) (by show 0 ≤ sizeLine; exact Nat.zero_le _)
/-- a class of errors without own __init__ -/
structure Err0 (g : G) (x : Str) (C : Addr) : Prop where
  ex : PySem.W.excIn g.K C [.type "ValueError", .type "Exception", .type "BaseException", .type "object"] "ValueError.__new__" = true
  gC : g.mg x = some (.ref C)
  kC : PySem.W.keepIn g.K (.ref C) = true
  sub : PySem.W.subIn g.K (.ref C) (.type "BaseException") = some true
  ty : PySem.W.typeIn g.K (.ref C) = some (.type "type")
theorem st_raise0 (E : Err0 g x C) (tk : Takes X W) (hg : Gl X x) (hc : X.calm = true := by rfl) (hK : X.K = g.K := by rfl) (hM : X.mg = g.mg := by rfl) (hdb : (x == ("__debug__" : Str)) = false := by decide) :
    JS g W X (.Raise (some (.Call (.Name x p) [] [] pos)) none pos') (sRaise x) := by
  obtain ⟨e1, e2, e3, e4, e5⟩ := E
  rw [← hK] at e1 e3 e4 e5
  refine PS.imp (ps_raise hc tk (pmk_own0 e1 (hM ▸ e2) e3 (raises_own e4 e5) hg hdb)) fun D σ H ⟨ph, s, C, S, R, h⟩ => ?_
  exact h _ _ σ H ph List.prefix_rfl Keep.refl S R ⟨_, e2, rfl, fun z => (z rfl).elim⟩
/-- the promise of an __init__ that keeps its arguments -/
def spI (K : PySem.W.Frag) (fs : List Str) : Sp := fun vs H Q _ => ∃ a C ws, vs = .ref a :: ws ∧ ws.length = fs.length ∧ OexC K C ∧ (∀ f ∈ fs, PySem.W.findIn K (.ref C) f = some none) ∧ H a = some (exo a C none) ∧
  ∀ dx H', H dx = none → dx ≠ a → H' a = some (exo a C (some dx)) → H' dx = some (exd dx (fs.zip ws).reverse) → (∀ b, b ≠ a → b ≠ dx → H' b = H b) → Q .non H'
/-- a class of errors with such an __init__ -/
structure Err1 (b : B) (g : G) (x : Str) (C fI : Addr) (fd : FuncData) (fs ps : List Str) : Prop where
  cl : OexC g.K C
  gC : g.mg x = some (.ref C)
  iC : PySem.W.findIn g.K (.ref C) "__init__" = some (some (.ref fI))
  tI : PySem.W.typeIn g.K (.ref fI) = some (.type "function")
  no : ∀ f ∈ fs, PySem.W.findIn g.K (.ref C) f = some none
  fn : FnOk b.prog b.w g.K g.mg b.base CX0 1 fI fd ps (spI g.K fs)
  bi : Binds g.K fd ps []
theorem RDs.zip {ph : List Addr} {H : Hp} : ∀ {fs : List Str} {ds : List D} {vs : List V}, RDs g ph H ds vs → RKv g ph H (fs.zip ds) (fs.zip vs)
  | [], _, _, _ => .nil
  | _ :: _, _, _, .nil => .nil
  | _ :: _, _, _, .cons a b => .cons a (RDs.zip b)
theorem RKv.append {k : Type} {ph : List Addr} {H : Hp} : ∀ {ds ds' : List (k × D)} {vs vs' : List (k × V)}, RKv g ph H ds vs → RKv g ph H ds' vs' → RKv g ph H (ds ++ ds') (vs ++ vs')
  | _, _, _, _, .nil, r => r
  | _, _, _, _, .cons a b, r => .cons a (RKv.append b r)
theorem RKv.reverse {k : Type} {ph : List Addr} {H : Hp} : ∀ {ds : List (k × D)} {vs : List (k × V)}, RKv g ph H ds vs → RKv g ph H ds.reverse vs.reverse
  | _, _, .nil => .nil
  | _, _, .cons a b => by rw [List.reverse_cons, List.reverse_cons]; exact (RKv.reverse b).append (.cons a .nil)
theorem st_raiseA {fI : Addr} {fd : FuncData} {fs ps : List Str} (E : Err1 b g x C fI fd fs ps) (tk : Takes X W) (hr : Room 2 X.A) (hg : Gl X x) (ha : JL g W X (e :: es) l) (hc : X.calm = true := by rfl)
    (hX : X.prog = b.prog ∧ X.w = b.w ∧ X.K = g.K ∧ X.mg = g.mg ∧ X.base = b.base := by exact ⟨rfl, rfl, rfl, rfl, rfl⟩) (hdb : (x == ("__debug__" : Str)) = false := by decide)
    (he : starEach (e :: es) X.env = (false, eval e X.env) :: starEach es X.env := by rfl) (hpl : (backTo pos (starEach es X.env)).any (·.1) = false := by rfl) :
    JS g W X (.Raise (some (.Call (.Name x p) (e :: es) [] pos)) none pos') (sRaiseA x fs l) := by
  obtain ⟨c1, c2, c3, c4, c5, c6, c7⟩ := E
  obtain ⟨h1, h2, h3, h4, h5⟩ := hX
  have c8 := c5
  rw [← h3] at c1 c3 c4 c5 c7
  rw [← h1, ← h2, ← h3, ← h4, ← h5] at c6
  refine PS.imp (ps_raise hc tk (pmk_oex (dvs := []) c1 c3 c4 c6 hr c7 .nil (fun _ _ _ _ _ _ _ z => z.elim) hg (h4 ▸ c2) ha hdb he hpl)) fun D σ H ⟨ph, s, Ch, S, R, h⟩ => ⟨ph, s, Ch, S, R, run_stm h R fun vs H1 ph1 ds C1 p k S1 R1 r1 h1 => ?_⟩
  by_cases hl : ds.length = fs.length ∧ fs.length ≤ 100
  · rw [if_pos hl] at h1
    have hlen : vs.length = fs.length := by rw [← r1.length]; exact hl.1
    refine ⟨by omega, fun a ha => ⟨a, C, vs ++ [], rfl, by simpa using hlen, c1, c5, upd_same, fun dx H' hd hda e1 e2 e3 => ⟨rfl, dx, _, e1, e2, ?_, ?_⟩⟩⟩
    · rw [upd_ne hda] at hd; exact hd
    · rw [upd_ne hda] at hd
      have eq : upd (L2.del H' a) dx (.xd (fs.zip (vs ++ [])).reverse) = upd H1 dx (.xd (fs.zip vs).reverse) := by
        rw [List.append_nil]
        funext b
        by_cases hb : b = dx
        · rw [hb, upd_same, upd_same]
        · rw [upd_ne hb, upd_ne hb]
          by_cases hb2 : b = a
          · rw [hb2, del_same, ha]
          · rw [del_ne hb2, e3 b hb2 hb, upd_ne hb2]
      rw [eq]
      refine h1 _ _ σ _ ph1 List.prefix_rfl (keep_upd (noTup_none hd)) (S1.fresh hd) (R1.up List.prefix_rfl (keep_upd (noTup_none hd))) ⟨C, c2, rfl, fun _ => ⟨dx, _, rfl, upd_same, ?_⟩⟩
      exact (RDs.zip (r1.up List.prefix_rfl (keep_upd (noTup_none hd)))).reverse
  · rw [if_neg hl] at h1; exact h1.elim
/-- the bodies of such __init__s -/
theorem spi_len {K : PySem.W.Frag} {fs ps : List Str} (hl : ps.length = fs.length + 1) : ∀ vs H Q E, spI K fs vs H Q E → vs.length = ps.length := fun vs H Q E ⟨a, C, ws, e, h, _⟩ => by rw [e, List.length_cons, h, hl]
variable {qual : Str} {st : Stmt} {fI : Addr} {fd : FuncData}
theorem init1 {f a1 : Str} (F : Fun g.K "__init__" qual st fI fd) (S : FnScope ["self", a1] ["self", a1] (defScope st))
    (h : ∀ (cdv : Value) (A : Around) (outer : List Env) (s : Shared) (H : Hp) (E : XK), PSs (cxOf CX0 b.prog b.w g.K g.mg b.base ["self", a1] qual (defScope st) fI cdv A outer s H E).nox (defBody st) (tOst g.K f (tVar 0) (tVar 1))) :
    FnOk b.prog b.w g.K g.mg b.base CX0 1 fI fd ["self", a1] (spI g.K [f]) := by
  refine Fun.ok F S (spi_len rfl) fun cdv A outer s H vs Q E hr q => ⟨_, h cdv A outer s H E, ?_⟩
  obtain ⟨a, C, ws, rfl, hl, T, no, ea, q⟩ := q
  obtain ⟨v1, rfl⟩ : ∃ v, ws = [v] := List.length_eq_one_iff.mp hl
  refine ⟨v1, rfl, .ref a, rfl, a, C, rfl, T, no f (by simp), .inl ⟨ea, fun dx hd hda => ?_⟩⟩
  refine q dx _ hd hda upd_same (by rw [upd_ne hda, upd_same]; rfl) fun b h1 h2 => by rw [upd_ne h1, upd_ne h2]
theorem init2 {f1 f2 a1 a2 : Str} (F : Fun g.K "__init__" qual st fI fd) (S : FnScope ["self", a1, a2] ["self", a1, a2] (defScope st))
    (h : ∀ (cdv : Value) (A : Around) (outer : List Env) (s : Shared) (H : Hp) (E : XK), PSs (cxOf CX0 b.prog b.w g.K g.mg b.base ["self", a1, a2] qual (defScope st) fI cdv A outer s H E).nox (defBody st) (tSeq (tOst g.K f1 (tVar 0) (tVar 1)) (tOst g.K f2 (tVar 0) (tVar 2)))) :
    FnOk b.prog b.w g.K g.mg b.base CX0 1 fI fd ["self", a1, a2] (spI g.K [f1, f2]) := by
  refine Fun.ok F S (spi_len rfl) fun cdv A outer s H vs Q E hr q => ⟨_, h cdv A outer s H E, ?_⟩
  obtain ⟨a, C, ws, rfl, hl, T, no, ea, q⟩ := q
  obtain ⟨v1, v2, rfl⟩ : ∃ v w, ws = [v, w] := by
    match ws, hl with
    | [v, w], _ => exact ⟨v, w, rfl⟩
  refine ⟨v1, rfl, .ref a, rfl, a, C, rfl, T, no f1 (by simp), .inl ⟨ea, fun dx hd hda => ?_⟩⟩
  refine ⟨v2, rfl, .ref a, rfl, a, C, rfl, T, no f2 (by simp), .inr ⟨dx, _, upd_same, by rw [upd_ne hda, upd_same], by simp, ?_⟩⟩
  refine q dx _ hd hda (by rw [upd_ne (Ne.symm hda), upd_same]) upd_same fun b h1 h2 => by rw [upd_ne h2, upd_ne h1, upd_ne h2]
theorem init3 {f1 f2 f3 a1 a2 a3 : Str} (F : Fun g.K "__init__" qual st fI fd) (S : FnScope ["self", a1, a2, a3] ["self", a1, a2, a3] (defScope st))
    (h : ∀ (cdv : Value) (A : Around) (outer : List Env) (s : Shared) (H : Hp) (E : XK), PSs (cxOf CX0 b.prog b.w g.K g.mg b.base ["self", a1, a2, a3] qual (defScope st) fI cdv A outer s H E).nox (defBody st) (tSeq (tOst g.K f1 (tVar 0) (tVar 1)) (tSeq (tOst g.K f2 (tVar 0) (tVar 2)) (tOst g.K f3 (tVar 0) (tVar 3))))) :
    FnOk b.prog b.w g.K g.mg b.base CX0 1 fI fd ["self", a1, a2, a3] (spI g.K [f1, f2, f3]) := by
  refine Fun.ok F S (spi_len rfl) fun cdv A outer s H vs Q E hr q => ⟨_, h cdv A outer s H E, ?_⟩
  obtain ⟨a, C, ws, rfl, hl, T, no, ea, q⟩ := q
  obtain ⟨v1, v2, v3, rfl⟩ : ∃ v w z, ws = [v, w, z] := by
    match ws, hl with
    | [v, w, z], _ => exact ⟨v, w, z, rfl⟩
  refine ⟨v1, rfl, .ref a, rfl, a, C, rfl, T, no f1 (by simp), .inl ⟨ea, fun dx hd hda => ?_⟩⟩
  refine ⟨v2, rfl, .ref a, rfl, a, C, rfl, T, no f2 (by simp), .inr ⟨dx, _, upd_same, by rw [upd_ne hda, upd_same], by simp, ?_⟩⟩
  refine ⟨v3, rfl, .ref a, rfl, a, C, rfl, T, no f3 (by simp), .inr ⟨dx, _, by rw [upd_ne (Ne.symm hda), upd_same], upd_same, by simp, ?_⟩⟩
  refine q dx _ hd hda (by rw [upd_ne (Ne.symm hda), upd_ne (Ne.symm hda), upd_same]) upd_same fun b h1 h2 => by rw [upd_ne h2, upd_ne h2, upd_ne h1, upd_ne h2]
end

/-! # try, several except clauses without names -/
def handle (sub : Str → Str → Option Bool) : List (Str × MS) → X → MS
  | [], x, s, C => .exc x s C
  | (c, m) :: r, x, s, C => match sub x.cls c with
    | some true => m s C
    | some false => handle sub r x s C
    | none => .bad
def sTry (sub : Str → Str → Option Bool) (m : MS) (hs : List (Str × MS)) : MS := fun s C => match m s C with
  | .exc x s' C' => handle sub hs x s' C'
  | r => r
/-- which classes of errors lie below which -/
def SubOk (g : G) (sub : Str → Str → Option Bool) : Prop := ∀ a c r A C, sub a c = some r → g.mg a = some (.ref A) → g.mg c = some (.ref C) → PySem.W.exmOne g.K (.ref A) (.ref C) = some r
/-- an except clause's suite -/
abbrev WN : WX := fun _ _ _ _ => False
section
variable {g : G} {W : WX} {X : Cx} {pos : Pos} {sub : Str → Str → Option Bool}
inductive HdJ (g : G) (X : Cx) : List ExceptHandler → List (Str × MS) → Prop
  | nil : HdJ g X [] []
  | cons {x : Str} {C : Addr} {m : MS} {b₀ : Stmt} {suite : List Stmt} {np pos' : Pos} {hds : List ExceptHandler} {l : List (Str × MS)} (hg : Gl X x) (hm : g.mg x = some (.ref C)) (hdb : (x == ("__debug__" : Str)) = false)
      (hsu : ∀ (a : Addr) (oe : Obj) (cls : Value) (d : Option Addr) (pn : List (Addr × Obj)), Zc cls d oe → (∃ vs, oe.data = .fields vs) → JSs g WN (X.suite a ((a, oe) :: pn)) (b₀ :: suite) m) (r : HdJ g X hds l) :
      HdJ g X (.ExceptHandler (some (.Name x np)) none (b₀ :: suite) pos' :: hds) ((x, m) :: l)
theorem RunS.ofN {ph : List Addr} {H : Hp} {r : RS} {D : Ends} (h : RunS g WN ph H r D) : RunS g W ph H r D := by
  cases r with
  | exc x s C => exact fun c d σ' H' ph' p k S R x => (h c d σ' H' ph' p k S R x).elim
  | nx s C => exact h
  | bk s C => exact h
  | ct s C => exact h
  | rt d C => exact h
  | bad => exact h
/-- what an except suite says must not end in an error: it is read so -/
def noX (m : MS) : MS := fun s C => match m s C with | .exc _ _ _ => .bad | r => r
theorem noX_run {ph : List Addr} {H : Hp} {r : RS} {D : Ends} (h : RunS g W ph H (match r with | .exc _ _ _ => .bad | r => r) D) : RunS g WN ph H r D := by
  cases r with
  | exc x s C => exact h.elim
  | nx s C => exact h
  | bk s C => exact h
  | ct s C => exact h
  | rt d C => exact h
  | bad => exact h
theorem st_suite {st : List Stmt} {m : MS} (h : JSs g WN X st m) : JSs g WN X st (noX m) := PSs.imp h fun D σ H ⟨ph, s, C, S, R, q⟩ => ⟨ph, s, C, S, R, noX_run q⟩
theorem hdj_ok (hS : SubOk g sub) (hK : X.K = g.K) (hM : X.mg = g.mg) : ∀ {hds : List ExceptHandler} {l : List (Str × MS)}, HdJ g X hds l → ∃ l', HdsOk X hds l' ∧ ∀ (D : Ends) (x : Mp.X) (s : Sl) (C : Hs) (ph : List Addr) (σ : L2.St) (H : Hp) (cls : Value) (d : Option Addr),
    Sim g ph C H → SR g ph H s σ → XR g ph H x cls d → RunS g W ph H (handle sub (l.map fun p => (p.1, noX p.2)) x s C) D → wMany X.K W D l' cls d σ H
  | _, _, .nil => ⟨[], .nil, fun D x s C ph σ H cls d S R xr h => h cls d σ H ph List.prefix_rfl Keep.refl S R xr⟩
  | _, _, .cons (x := xn) (C := C) (m := m) hg hm hdb hsu r => by
    obtain ⟨l', h1, h2⟩ := hdj_ok hS hK hM r
    refine ⟨(.ref C, fun _ _ _ => tS g WN (noX m)) :: l', .cons ⟨hg, hdb, .inl (hM ▸ hm)⟩ (fun a oe cls d pn hz hf => st_suite (hsu a oe cls d pn hz hf)) h1, fun D x s Ch ph σ H cls d S R xr h => ?_⟩
    obtain ⟨A, hA, rfl, fs⟩ := xr
    simp only [List.map_cons, handle] at h
    cases e : sub x.cls xn with
    | none => rw [e] at h; exact h.elim
    | some b =>
      rw [e] at h
      have q := hS _ _ _ _ _ e hA hm
      refine ⟨b, hK ▸ q, fun eb a ha => ?_, fun eb => ?_⟩
      · subst eb
        have h : RunS g W ph H (noX m s Ch) D := h
        refine ⟨ph, s, Ch, S, R, ?_⟩
        unfold noX at h ⊢
        have := noX_run h
        cases e : m s Ch with
        | exc x s C => rw [e] at h; exact h.elim
        | nx s C => rw [e] at this; exact this
        | bk s C => rw [e] at this; exact this
        | ct s C => rw [e] at this; exact this
        | rt d C => rw [e] at this; exact this
        | bad => rw [e] at this; exact this
      · subst eb
        exact h2 D x s Ch ph σ H _ d S R ⟨A, hA, rfl, fs⟩ h
theorem st_try {body : List Stmt} {h₀ : ExceptHandler} {hds : List ExceptHandler} {mb : MS} {l : List (Str × MS)} (hS : SubOk g sub) (tk : Takes X W) (hs : X.stack = X.env :: X.outer) (hf : X.env.frame = some X.env.locals)
    (hb : ∀ (W' : WX) (pn : List (Addr × Obj)) (xe : Value → Shared → Prop), Takes (X.tr pn xe) W' → PassesOwn (model X.prog X.w) X.A X.env xe → JSs g W' (X.tr pn xe) body mb) (hh : HdJ g X (h₀ :: hds) l)
    (hK : X.K = g.K := by rfl) (hM : X.mg = g.mg := by rfl) : JS g W X (.Try body (h₀ :: hds) [] [] pos) (sTry sub mb (l.map fun p => (p.1, noX p.2))) := by
  obtain ⟨l', h1, h2⟩ := hdj_ok (W := W) hS hK hM hh
  refine PS.imp (ps_try_many hs hf tk (tb := fun W' => tS g W' mb) hb h1) fun D σ H ⟨ph, s, C, S, R, h⟩ => ⟨ph, s, C, S, R, ?_⟩
  unfold sTry at h
  cases e : mb s C with
  | nx s' C' => rw [e] at h; exact h
  | bk s' C' => rw [e] at h; exact h
  | ct s' C' => rw [e] at h; exact h
  | rt d C' => rw [e] at h; exact h
  | bad => rw [e] at h; exact h
  | exc x s' C' =>
    rw [e] at h
    exact fun cls d σ' H' ph' p k S' R' xr => h2 D x s' C' ph' σ' H' cls d S' R' xr (runS_up p k h)
end
end Mp
namespace Mp
open PySem PySem.Spec PyProof.Rows L2
/-! # an error that leaves a comprehension's block -/
/-- what is asked where the block ends by an error -/
def errPost (M : Model) (A : Around) (E : Value → Shared → Prop) (ce : Env) (x : Value) (s' : Shared) : Prop :=
  ∃ m, s'.heap.Ns ce.locals m ∧ ∀ h', Heap.SameBut ce.locals s'.heap h' → wpAny M A (passOn "comprehension.variables-let-go" x ce : Sem Value) (fun _ _ => False) E { s' with heap := h' }
/-- .. and where it ends at all -/
def blkPost (M : Model) (A : Around) (E : Value → Shared → Prop) (use : Option (Value → Sem Unit)) (Q : Value → Shared → Prop) (acc : Value) (ce : Env) (r : Result) (s' : Shared) : Prop :=
  match r with
  | .ok f => compPost M A E use Q acc ce.locals (.ok f) s'
  | .error x => errPost M A E ce x s'
theorem frames_but {B B2 h h' : Heap} {C : Addr} (hb : ∀ b, B.get? b = none → B2.get? b = none) (k : ∀ b, b ≠ C → h'.get? b = h.get? b) : ∀ {l : List Env}, C ∉ frs l → h.FunFrames B l → h'.FunFrames B2 l
  | [], _, _ => trivial
  | env :: r, hC, ⟨hk, ⟨L, o, hf, hn, ho, hd⟩, hr⟩ => by
    have e : frs (env :: r) = L :: frs r := by unfold frs; rw [List.filterMap_cons, hf]
    rw [e] at hC
    have h1 : L ≠ C := fun z => hC (by rw [z]; exact List.mem_cons_self)
    exact ⟨hk, ⟨L, o, hf, hb L hn, (k L h1).trans ho, hd⟩, frames_but hb k (fun z => hC (List.mem_cons_of_mem _ z)) hr⟩
section
variable {X : Cx} {W : WX} {pins pins' : List (Addr × Obj)} {σ σ' : L2.St} {H3 H7 : Hp} {s3 s7 s8 : Shared} {scope : Scope} {ce : Env} {fp : List Addr} {e : Value}
/-- what a callee lets out of a turn leaves the comprehension and reaches what the def wants -/
theorem blk_out (tk : Takes X W) (hs : X.stack = X.env :: X.outer) (hf : X.env.frame = some X.env.locals) (hcf : ce.frame = X.env.frame) (hcl : ce.locals = s3.heap.objs.size)
    (I3 : Inv X pins σ H3 s3) (f3 : ∀ b ∈ fp, (b ∈ X.ex ∨ X.s_0.heap.objs.size ≤ b) ∧ b ≠ X.env.locals ∧ (∀ x c, X.env.cells.lookup x = some c → c ≠ b) ∧ ∀ p ∈ X.pn ++ pins, p.1 ≠ b) {xe : Value → Shared → Prop}
    (I7 : Inv ((X.blk s3 H3 scope ce fp).wish xe) pins' σ' H7 s7) (c : L2.CX X.prog X.w X.stack H7 s7 (fun c d H => W c d σ H) e s8) :
    wpAny (model X.prog X.w) X.A (noteFrame e ce) (fun _ s9 => errPost (model X.prog X.w) X.A X.xe ce e s9) (fun _ _ => False) s8 := by
  obtain ⟨a, B0, _, _, _, ea, fl0, _⟩ := id c
  subst ea
  have xx : XE ((X.blk s3 H3 scope ce fp).wish xe) (fun c d _ H => W c d σ H) (.ref a) s8 := XE.of_call I7 (fun _ _ _ h => h) c
  obtain ⟨a', B', sI, pins2, σ2, H8, cls, d, ea, J, nb, up, sky, na, os, ag, w⟩ := xx
  cases ea
  have hfr : X.A.frames = some (X.env :: X.outer) := by rw [I3.ok.frames, hs]
  have sky : Sky B' (X.env :: X.outer) a (Zc cls d) ce.locals s8.heap := by rw [← hs]; exact sky
  -- the frame is noted
  have held : ∀ {Q : Unit → Shared → Prop}, (∀ h', HandSPX.HeldZ B' (X.env :: X.outer) a (Zc cls d) X.env.locals h' → s8.heap.UpToSlots h' → Q () { s8 with heap := h' }) →
      wpAny (model X.prog X.w) X.A (noteFrame (.ref a) X.env) Q (fun _ _ => False) s8 := fun {Q} hq => by
    rcases sky with ⟨hB, hn, hl, oe, vs, he, hz, hd, h1⟩ | fl | hh
    · exact HandSPX.look_newZ Zc.steady hfr hl hf he hB hn hd h1 hz hq
    · exact HandSPX.looks_onZ Zc.steady hfr hf fl hq
    · obtain ⟨_, _, _, oe, vs, T, oT, ts, he, _, hd, h1, _, _, hT, hdT, h3⟩ := hh
      obtain ⟨_, _, _, oe', vs', T', oT', ts', he', _, hd', h1', _, _, hT', hdT', h3'⟩ := fl0
      rw [he] at he'; cases he'
      rw [hd] at hd'; cases hd'
      rw [h1] at h1'; cases h1'
      rw [hT] at hT'; cases hT'
      rw [hdT] at hdT'; cases hdT'
      rw [h3] at h3'
      exact absurd h3' (by simp [rawInt])
  have hnote : noteFrame (.ref a) ce = noteFrame (.ref a) X.env := by unfold noteFrame PySem.frameOf; rw [hcf]
  rw [hnote]
  refine held fun h9 hh9 up9 => ?_
  obtain ⟨m, hns, _⟩ := J.loc
  have hns9 : h9.Ns ce.locals m := up9.ns (up.ns hns)
  refine ⟨m, hns9, fun h10 sb => ?_⟩
  obtain ⟨hB, hn, hl, ht⟩ := hh9
  -- the block's own dict is no frame, and no record
  have hC : ce.locals ∉ frs (X.env :: X.outer) := fun hm => by
    rw [← hs] at hm
    obtain ⟨_, o, ho, _⟩ := J.ok.funs.mem hm
    have h1 : ce.locals < s3.heap.objs.size := Heap.lt_size ho
    rw [hcl] at h1
    exact Nat.lt_irrefl _ h1
  have isD : ∃ oC, h9.get? ce.locals = some oC ∧ ∀ vs, oC.data ≠ .fields vs := by
    obtain ⟨oC, es, ep, ho, hdd, _⟩ := hns9
    exact ⟨oC, ho, fun vs z => by rw [hdd] at z; cases z⟩
  obtain ⟨oC, hoC, hdC⟩ := isD
  have notC : ∀ {b : Addr} {o : Obj} {vs : Array Value}, h9.get? b = some o → o.data = .fields vs → b ≠ ce.locals := fun {b o vs} h1 h2 z => by
    subst z
    rw [hoC] at h1; cases h1
    exact hdC _ h2
  have bNone : ∀ b, B'.get? b = none → (PySem.W.hideAll B' [ce.locals]).get? b = none := fun b hb => by
    cases q : (PySem.W.hideAll B' [ce.locals]).get? b with
    | none => rfl
    | some o => rw [PySem.W.of_hideAll _ q] at hb; cases hb
  have bStay : (PySem.W.hideAll B' [ce.locals]).StaysIn h10 := fun b o q => by
    have ne : b ≠ ce.locals := fun z => by
      subst z
      rw [PySem.W.hideAll_none [ce.locals] (List.mem_singleton.mpr rfl)] at q
      cases q
    exact (sb.2 b ne).trans (hB b o (PySem.W.of_hideAll _ q))
  have bFrames : h10.FunFrames (PySem.W.hideAll B' [ce.locals]) (X.env :: X.outer) := frames_but bNone (fun b hb => sb.2 b hb) hC hl
  have bTrace : HandSPX.TracedZ h10 (PySem.W.hideAll B' [ce.locals]) a (Zc cls d) (rawInt X.env.locals) := by
    obtain ⟨oe, vs, T, oT, ts, he, hz, hd, h1, hnT, hTe, hT, hdT, h3⟩ := ht
    exact ⟨oe, vs, T, oT, ts, (sb.2 a (notC he hd)).trans he, hz, hd, h1, bNone T hnT, hTe, (sb.2 T (notC hT hdT)).trans hT, hdT, h3⟩
  obtain ⟨oe, vs, T, oT, ts, he, hz, hd, h1, _, _, _, _, _⟩ := id bTrace
  unfold PySem.passOn
  refine wpAny_bind (wpAny_field he hd h1 ?_)
  rw [if_neg (show ¬ ((Value.ref T == Value.none) = true) from by simp)]
  have fin : wpAny (model X.prog X.w) X.A (setFlight (.ref a) ce.frame) (fun _ s11 => wpAny (model X.prog X.w) X.A (throw (.ref a) : Sem Value) (fun _ _ => False) X.xe s11) X.xe { s8 with heap := h10 } := by
    rw [hcf, hf]
    refine HandSPX.setFlight_anyZ bStay bFrames bTrace fun h11 k1 k2 k3 k4 => wpAny_throw (tk _ _ ?_)
    have J1 : Inv X pins σ H8 sI := I3.call' (ch := fp) J.os J.base J.hok J.bare f3
    have nC : H8 ce.locals = none := J.free
    obtain ⟨c0, c1, c2, c3, c4, c5⟩ := I3.fpOk (b := ce.locals) (H' := H8) (by rw [hcl]; exact Nat.le_refl _) nC
    have J2 : Inv X pins σ H8 { sI with heap := PySem.W.hideAll sI.heap [ce.locals] } := J1.turned (t' := sI.toks) (fun b o hb q => PySem.W.hideAll_get _ q (by simpa using hb)) c0 c1 c3 c4 c5
    refine ⟨a, PySem.W.hideAll B' [ce.locals], { sI with heap := PySem.W.hideAll sI.heap [ce.locals] }, pins, σ, H8, cls, d, rfl, J2, fun b o q hb => ?_, fun b o q hnf => ?_, .inr (.inr ⟨by rw [← hs] at *; exact k1, bNone a hn, by rw [hs]; exact k2, k3⟩), na, os, ag, w⟩
    · have q0 : (PySem.W.hideAll sI.heap [ce.locals]).get? b = some o := q
      have ne : b ∉ [ce.locals] := fun z => by rw [PySem.W.hideAll_none _ z] at q0; cases q0
      exact PySem.W.hideAll_get _ (nb b o (PySem.W.of_hideAll _ q0) hb) ne
    · have q0 : (PySem.W.hideAll sI.heap [ce.locals]).get? b = some o := q
      have ne : b ≠ ce.locals := fun z => by
        subst z
        rw [PySem.W.hideAll_none [ce.locals] (List.mem_singleton.mpr rfl)] at q0
        cases q0
      obtain ⟨sl1, e1⟩ := up b o (PySem.W.of_hideAll _ q0) hnf
      obtain ⟨sl2, e2⟩ := up9 b _ e1 hnf
      obtain ⟨sl3, e3⟩ := k4 b _ ((sb.2 b ne).trans e2) hnf
      exact ⟨sl3, e3⟩
  first
    | exact wpAny_bind (wpAny_pure (wpAny_bind fin))
    | exact wpAny_bind fin
end

/-! # the comprehension around its block -/
section
variable {M : Model} {A : Around} {E : Value → Shared → Prop} {s : Shared} {env : Env}
theorem compr_run {e : Expr} {scope : Scope} {pos : Pos} {newAcc first : Sem Value} {gc : Comprehension} {gs : List Comprehension} {cl : List (Str × Addr)} {use : Option (Value → Sem Unit)} {Q : Value → Shared → Prop}
    (hcl : clausesOf e = gc :: gs) (hs : ∀ x, foldedSetIterable gc.iter env x = pure x) (hclos : closureFor scope env = pure cl) (hkind : scope.kind = .function) (hnames : ∀ x ∈ scope.names, x.2 = .local → scope.names.lookup x.1 = some .local)
    (h : wpAny M A first (fun x s1 => wpAny M A (pyIter x) (fun it s2 => wpAny M A newAcc (fun acc s3 => wpAny M A (newFunctionEnv scope env.globals cl [] env.qual none .none (some env))
      (fun ce s4 => codeAny M A (.compStart e 0 it acc { ce with scope := relabel scope env }) (blkPost M A E use Q acc { ce with scope := relabel scope env }) s4) E s3) E s2) E s1) E s) :
    wpAny M A (comprehension e scope env pos newAcc false first use) Q E s := by
  unfold comprehension
  rw [hclos, hcl]
  refine wpAny_bind (wpAny_mono h (fun x s1 h1 => ?_) fun _ _ z => z)
  refine wpAny_bind (wpAny_standAt (wpAny_bind (wpAny_of_eq (hs x) (wpAny_bind (wpAny_holding (wpAny_mono h1 (fun it s2 h2 => ?_) fun _ _ z => z))))))
  refine wpAny_standIf (wpAny_bind (wpAny_mono h2 (fun acc s3 h3 => ?_) fun _ _ z => z))
  refine wpAny_bind (wpAny_pure (wpAny_bind (wpAny_mono h3 (fun ce s4 h4 => ?_) fun _ _ z => z)))
  dsimp only
  have look : ∀ x ∈ (scope.names.filter fun x => (x.2 == .local || x.2 == .cell) && x.1 != (".0" : Str)).reverse, x.2 = .local → Env.kindOf { ce with scope := relabel scope env } x.1 = some .local :=
    fun x hx hl => lookup_relabel_local (hnames x (List.mem_filter.mp (List.mem_reverse.mp hx)).1 hl)
  refine wpAny_holding (wpAny_bind (wpAny_attempt (wpAny_holding (wpAny_run (codeAny_mono h4 fun r s5 hr => ?_)))))
  cases r with
  | error x =>
    obtain ⟨m, hn, hr⟩ := (show errPost M A E { ce with scope := relabel scope env } x s5 from hr)
    refine wpAny_bind (wpAny_holding (wpAny_comp_letGo (cenv := { ce with scope := relabel scope env }) hkind _ s5 m look hn fun h' _ _ sb => ?_))
    exact wpAny_mono (hr h' sb) (fun _ _ z => z.elim) fun _ _ z => z
  | ok f =>
    cases use with
    | none =>
      obtain ⟨m, hn, hr⟩ := hr
      refine wpAny_bind (wpAny_holding (wpAny_comp_letGo (cenv := { ce with scope := relabel scope env }) hkind _ s5 m look hn fun h' _ _ sb => ?_))
      exact wpAny_pure (hr h' sb)
    | some u =>
      refine wpAny_bind (wpAny_rule (wpAny_bind (wpAny_holding (wpAny_mono hr (fun _ s6 hr' => ?_) fun _ _ z => z))))
      obtain ⟨m, hn, hr'⟩ := hr'
      refine wpAny_bind (wpAny_comp_letGo (cenv := { ce with scope := relabel scope env }) hkind _ s6 m (fun x hx => ?_) hn fun h' _ _ sb => wpAny_pure (hr' h' sb))
      exact (List.mem_append.mp hx).elim (fun z => look x (List.mem_of_mem_drop z)) fun z => look x (List.mem_of_mem_take z)
end

/-! # a list comprehension as ours -/
def loopC (it : Itm) (t : MG) (bt : MB) (me : ME) (dst : Nat) : Nat → Nat → Sl → Hs → R D
  | 0, _, _, _ => .bad
  | n + 1, i, s, C => match it.nxt i C with
    | .stop => .val (.ref dst) C
    | .bad => .bad
    | .item d => match t d s C with
      | .val s1 C1 => (bt s1 C1).bind fun b C2 => if b = true then (me s1 C2).bind fun y C3 => match C3[dst]? with
          | some (.lst acc) => if acc.length < sizeLine then loopC it t bt me dst n (i + 1) s (C3.set dst (.lst (acc ++ [y]))) else .bad
          | _ => .bad
        else loopC it t bt me dst n (i + 1) s C2
      | _ => .bad
/-- the slots of the block's own names are empty at each turn -/
def wipeD (s : Sl) : List Nat → Sl
  | [] => s
  | v :: vs => (wipeD s vs).set v none
def eLc (m : MI) (t : MG) (bt : MB) (me : ME) (vs : List Nat) : ME := fun s C => (m s C).bind fun it C1 => loopC it t bt me C1.length it.fuel 0 (wipeD s vs) (C1 ++ [.lst []])
def bYes : MB := fun _ C => .val true C
theorem SR.wipe {g : G} {ph : List Addr} {H : Hp} {s : Sl} {σ : L2.St} (r : SR g ph H s σ) : ∀ vs : List Nat, SR g ph H (wipeD s vs) (wipe σ vs)
  | [] => r
  | v :: vs => (SR.wipe r vs).unset v
/-- more slots are known -/
def Sub (s s1 : Sl) : Prop := s.length = s1.length ∧ ∀ (i : Nat) (d : D), s[i]? = some (some d) → s1[i]? = some (some d)
theorem Sub.refl (s : Sl) : Sub s s := ⟨rfl, fun _ _ h => h⟩
theorem Sub.trans {a b c : Sl} (x : Sub a b) (y : Sub b c) : Sub a c := ⟨x.1.trans y.1, fun i d h => y.2 i d (x.2 i d h)⟩
theorem SR.sub {g : G} {ph : List Addr} {H : Hp} {s s1 : Sl} {σ : L2.St} (x : Sub s s1) (r : SR g ph H s1 σ) : SR g ph H s σ := ⟨x.1.trans r.1, fun i d h => r.2 i d (x.2 i d h)⟩
/-- the targets of the block are its own -/
def OwnT (t : MG) (vs : List Nat) : Prop := ∀ d s0 s C s1 C1, Sub (wipeD s0 vs) s → t d s C = .val s1 C1 → Sub (wipeD s0 vs) s1
theorem wipeD_in {s : Sl} {i : Nat} {d : D} : ∀ {vs : List Nat}, i ∈ vs → (wipeD s vs)[i]? ≠ some (some d)
  | v :: vs, h => by
    unfold wipeD
    by_cases e : v = i
    · subst e
      intro z
      by_cases hl : v < (wipeD s vs).length
      · rw [List.getElem?_set_self hl] at z; cases z
      · rw [List.getElem?_eq_none (by simpa using hl)] at z; cases z
    · rw [List.getElem?_set_ne e]
      exact wipeD_in ((List.mem_cons.mp h).resolve_left (fun z => e z.symm))
theorem own_name {i : Nat} {vs : List Nat} (h : i ∈ vs) : OwnT (tgN i) vs := fun d s0 s C s1 C1 hs e => by
  cases e
  refine ⟨by simpa using hs.1, fun j d' hj => ?_⟩
  by_cases e : j = i
  · subst e; exact (wipeD_in h hj).elim
  · rw [List.getElem?_set_ne (Ne.symm e)]; exact hs.2 j d' hj
theorem own_all {vs : List Nat} : ∀ {ts : List MG}, (∀ t ∈ ts, OwnT t vs) → ∀ ds s0 s C s1 C1, Sub (wipeD s0 vs) s → tgAll ts ds s C = .val s1 C1 → Sub (wipeD s0 vs) s1
  | [], _, [], _, _, _, _, _, hs, e => by cases e; exact hs
  | [], _, _ :: _, _, _, _, _, _, _, e => by cases e
  | _ :: _, _, [], _, _, _, _, _, _, e => by cases e
  | t :: ts, h, d :: ds, s0, s, C, s1, C1, hs, e => by
    unfold tgAll at e
    cases e1 : t d s C with
    | val s2 C2 =>
      rw [e1] at e
      exact own_all (fun t' ht => h t' (List.mem_cons_of_mem _ ht)) ds s0 s2 C2 s1 C1 (h t List.mem_cons_self d s0 s C s2 C2 hs e1) e
    | exc x C2 => rw [e1] at e; cases e
    | bad => rw [e1] at e; cases e
theorem own_tup {ts : List MG} {vs : List Nat} (h : ∀ t ∈ ts, OwnT t vs) : OwnT (tgT ts) vs := fun d s0 s C s1 C1 hs e => by
  unfold tgT at e
  split at e
  · split at e
    · exact own_all h _ s0 s C s1 C1 hs e
    · cases e
  · cases e

/-- a clause's tests -/
abbrev JTs (g : G) (W : WX) (X : Cx) (ifs : List Expr) (m : MB) : Prop := PTs X ifs (tB g W m)
section
variable {g : G} {W : WX} {X : Cx} {pos : Pos}
theorem ts_nil : JTs g W X [] bYes := ⟨fun pins s σ H Q I ⟨ph, sl, C, S, R, h⟩ => pts_nil.run pins s σ H Q I (run_val h S rfl)⟩
theorem ts_one {c : Expr} {m : MB} (h : JB g W X c m) : JTs g W X [c] m := pts_one h
/-- a block's context, with its wish about errors -/
abbrev Cx.blkx (X : Cx) (s : Shared) (H : Hp) (scope : Scope) (cl : List (Str × Addr)) (C : Addr) (fp : List Addr) (xe : Value → Shared → Prop) : Cx := (X.blk s H scope (compEnvC scope cl C X.env) fp).wish xe
theorem lc_main {elt tg iter : Expr} {ifs : List Expr} {scope : Scope} {own : List (Str × Nat)} {pos' : Pos} {mi : MI} {t : MG} {bt : MB} {me : ME} {use : Option (Value → Sem Unit)} {Qf : Value → Shared → Prop} {Q : VK}
    {pins : List (Addr × Obj)} {s : Shared} {σ : L2.St} {H : Hp} (tk : Takes X W) (hs : X.stack = X.env :: X.outer) (hf : X.env.frame = some X.env.locals) (hc : X.calm = true) (hN : X.N.Nodup) (hi : JI g W X tg iter mi) (ok : BlkOk X.N X.env.scope scope own)
    (ho : OwnT t (own.map (·.2)))
    (hg : ∀ (s : Shared) (H : Hp) (cl : List (Str × Addr)) (C : Addr) (fp : List Addr) (xe : Value → Shared → Prop), JG g (Cx.blkx X s H scope cl C fp xe) tg t)
    (ht : ∀ (s : Shared) (H : Hp) (cl : List (Str × Addr)) (C : Addr) (fp : List Addr) (xe : Value → Shared → Prop) (W' : WX), (∀ σ, PassesAt (L2.CX X.prog X.w) (Cx.blkx X s H scope cl C fp xe) σ (WE W' σ)) → JTs g W' (Cx.blkx X s H scope cl C fp xe) ifs bt)
    (he : ∀ (s : Shared) (H : Hp) (cl : List (Str × Addr)) (C : Addr) (fp : List Addr) (xe : Value → Shared → Prop) (W' : WX), (∀ σ, PassesAt (L2.CX X.prog X.w) (Cx.blkx X s H scope cl C fp xe) σ (WE W' σ)) → JE g W' (Cx.blkx X s H scope cl C fp xe) elt me)
    (hfs : ∀ x, foldedSetIterable iter X.env x = pure x) (I : Inv X pins σ H s) (h : tJ g W (eLc mi t bt me (own.map (·.2))) σ H Q)
    (hRR : ∀ D C s' m H', Inv X pins σ H' s' → Q (.ref D) H' → s'.heap.Ns C m → FpOk X pins H' C → compPost (model X.prog X.w) X.A X.xe use Qf (.ref D) C (.ok .next) s') :
    wpAny (model X.prog X.w) X.A (comprehension (.ListComp elt [⟨tg, iter, ifs, 0⟩] scope pos) scope X.env pos' (newList []) false (eval iter X.env) use) Qf X.xe s := by
  have hfree : ∀ y ∈ scope.names, y.2 = .free → ∃ c, X.env.cells.lookup y.1 = some c := fun y hy e => (ok.free y hy e).elim (fun k => I.ok.has _ (.inl k)) fun k => I.ok.has _ (.inr k)
  obtain ⟨ph0, s0, C0, S0, R0, h0⟩ := h
  have hi0 : tI g W mi σ H fun J H1 => ∃ ph C1 it, Pre ph0 ph ∧ Keep g H H1 ∧ Sim g ph C1 H1 ∧ ItR g ph H1 it J ∧ RunE g (fun c d H' => W c d σ H') ph H1 (loopC it t bt me C1.length it.fuel 0 (wipeD s0 (own.map (·.2))) (C1 ++ [.lst []])) Q :=
    ⟨ph0, s0, C0, S0, R0, run_bind h0 fun J H1 ph1 it C1 p k S1 r1 h1 => ⟨ph1, C1, it, p, k, S1, r1, h1⟩⟩
  refine compr_run (use := use) rfl hfs (closure_ok hfree) ok.kind (fun y hy e => by rw [ok.uniq y hy, e]) (thn (hi.run pins s σ H _ I hi0) fun xv s1 hx => thn hx fun itv s2 h2 => ?_)
  obtain ⟨ito, fp, tn, J, H2, e, I2, T, st2, f2, ph1, C1, it, p1, k1, S1, itr, h1⟩ := h2
  subst e
  refine wpAny_newObj_type (newEnv_comp ?_) (by show 0 ≤ sizeLine; decide)
  -- the new list, the block's start
  generalize hD : s2.heap.objs.size = D
  have hDn : H2 D = none := I2.hok.fresh (Nat.le_of_eq hD)
  generalize hs3 : ({ s2 with heap := s2.heap.push { cls := .type "list", data := .seq ([] : List Value).toArray } } : Shared) = s3
  have e3 : s3.heap = s2.heap.push { cls := .type "list", data := .seq ([] : List Value).toArray } := by rw [← hs3]
  have I3 : Inv X pins σ (upd H2 D (.lst [])) s3 := by
    rw [← hs3]
    refine I2.laid (t' := s2.toks) (fun b o e => Heap.get?_push_of_some _ e) (Nat.le_of_eq hD) ⟨Nat.zero_le _, [], 0, .nil, ?_⟩
    rw [← hD]; exact Heap.get?_push_size _ rfl
  have lt2 : ∀ b ∈ fp, b < s2.heap.objs.size := fun b hb => (T.obj _ _ st2 b hb).elim fun o q => Heap.lt_size q.1
  have f3 : ∀ b ∈ fp, FpOk X pins (upd H2 D (.lst [])) b ∧ b < s3.heap.objs.size := fun b hb => by
    have z := lt2 b hb
    exact ⟨⟨by rw [upd_ne (by rw [← hD]; exact Nat.ne_of_lt z)]; exact (f2 b hb).1, (f2 b hb).2⟩, by rw [e3, Heap.size_push]; exact Nat.lt_succ_of_lt z⟩
  have st3 : tn 0 s3.heap := T.keep _ _ _ st2 fun b _ o e => by rw [e3]; exact Heap.get?_push_of_some _ e
  have I4 := block_start I3 ok hN f3
  have S3 : Sim g (ph1 ++ [D]) (C1 ++ [.lst []]) (upd H2 D (.lst [])) := S1.new hDn ⟨[], upd_same, .nil⟩
  have k3 : Keep g H2 (upd H2 D (.lst [])) := keep_upd (noTup_none hDn)
  have R3 : SR g (ph1 ++ [D]) (upd H2 D (.lst [])) (wipeD s0 (own.map (·.2))) (wipe σ (own.map (·.2))) := (R0.up (p1.trans (List.prefix_append _ _)) (k1.trans k3)).wipe _
  have hx3 : RunE g (fun c d H' => W c d σ H') (ph1 ++ [D]) (upd H2 D (.lst [])) (loopC it t bt me C1.length it.fuel 0 (wipeD s0 (own.map (·.2))) (C1 ++ [.lst []])) Q := run_up (List.prefix_append _ _) k3 h1
  have eD : (ph1 ++ [D])[C1.length]? = some D := by rw [← S1.len]; simp
  show codeAny _ _ (.compStart (.ListComp elt [⟨tg, iter, ifs, 0⟩] scope pos) 0 (.ref ito) (.ref D) (compEnvC scope (cellsFrom (s3.heap.objs.size + 1) scope.names (cloFrom X.env.cells scope.names [])) s3.heap.objs.size X.env))
    (blkPost (model X.prog X.w) X.A X.xe use Qf (.ref D) (compEnvC scope (cellsFrom (s3.heap.objs.size + 1) scope.names (cloFrom X.env.cells scope.names [])) s3.heap.objs.size X.env)) { s3 with heap := pushCells (s3.heap.push { cls := .type "dict", data := .dict #[] }) scope.names }
  generalize hcl : cellsFrom (s3.heap.objs.size + 1) scope.names (cloFrom X.env.cells scope.names []) = cl at I4 ⊢
  generalize hce : s3.heap.objs.size = Cd at I4 ⊢
  generalize hH3 : upd H2 D (.lst []) = H3 at I3 I4 S3 R3 hx3 f3 k3
  generalize hs4 : ({ s3 with heap := pushCells (s3.heap.push { cls := .type "dict", data := .dict #[] }) scope.names } : Shared) = s4 at I4 ⊢
  have st4 : tn 0 s4.heap := T.keep _ _ _ st3 fun b _ o e => by rw [← hs4]; exact pushCells_keeps _ _ _ _ (Heap.get?_push_of_some _ e)
  -- the wish about errors
  generalize hxe : notedBy (model X.prog X.w) X.A (compEnvC scope cl Cd X.env) (fun x s' => blkPost (model X.prog X.w) X.A X.xe use Qf (.ref D) (compEnvC scope cl Cd X.env) (.error x) s') = xe
  have ff : ∀ b ∈ fp, (b ∈ X.ex ∨ X.s_0.heap.objs.size ≤ b) ∧ b ≠ X.env.locals ∧ (∀ x c, X.env.cells.lookup x = some c → c ≠ b) ∧ ∀ p ∈ X.pn ++ pins, p.1 ≠ b := fun b hb => ⟨(f3 b hb).1.2.2.2.1, (f3 b hb).1.2.1, (f3 b hb).1.2.2.2.2.1, (f3 b hb).1.2.2.2.2.2⟩
  have pass : ∀ σ', PassesAt (L2.CX X.prog X.w) (Cx.blkx X s3 H3 scope cl Cd fp xe) σ' (WE (fun c d _ H => W c d σ H) σ') := fun σ' pn' H7 s7 er s8 I7 c => by
    show xe er s8
    rw [← hxe]
    exact wpAny_mono (blk_out (ce := compEnvC scope cl Cd X.env) tk hs hf rfl hce.symm I3 ff I7 c) (fun _ s9 q => q) fun _ _ z => z.elim
  have pg := hg s3 H3 cl Cd fp xe
  have pt := ht s3 H3 cl Cd fp xe _ pass
  have pe := he s3 H3 cl Cd fp xe _ pass
  have stat : ∀ {σ' : L2.St} {H' : Hp} {s' : Shared}, Inv (Cx.blkx X s3 H3 scope cl Cd fp xe) [] σ' H' s' → (∀ b ∈ fp, H' b = none) → ∀ b ∈ fp, FpOk (Cx.blkx X s3 H3 scope cl Cd fp xe) [] H' b := fun {σ' H' s'} I' hn b hb =>
    ⟨hn b hb, (I'.ok.exf b hb).1, I'.ok.exfs b hb, .inl hb, fun x c e => (I'.ok.exf b hb).2 x c e, fun p hp => absurd (show p ∈ ([] : List (Addr × Obj)) ++ [] from hp) (by simp)⟩
  have noE : ∀ {α : Type} {tm : Sem α} {P P' : α → Shared → Prop} {E' : Value → Shared → Prop} {sx : Shared}, wpAny (model X.prog X.w) X.A tm P (fun _ _ => False) sx → (∀ a s, P a s → P' a s) → wpAny (model X.prog X.w) X.A tm P' E' sx := fun hh f => wpAny_mono hh f fun _ _ z => z.elim
  have loop : codeAny (model X.prog X.w) X.A (.compLoop (.ListComp elt [⟨tg, iter, ifs, 0⟩] scope pos) 0 (.ref ito) (.ref D) (compEnvC scope cl Cd X.env)) (blkPost (model X.prog X.w) X.A X.xe use Qf (.ref D) (compEnvC scope cl Cd X.env)) s4 := by
    refine compLoop_any (fun n s' => ∃ i σ' ph' Ch' H', Inv (Cx.blkx X s3 H3 scope cl Cd fp xe) [] σ' H' s' ∧ tn i s'.heap ∧ (∀ b ∈ fp, H' b = none) ∧ Pre (ph1 ++ [D]) ph' ∧ Keep g H2 H' ∧ Sim g ph' Ch' H' ∧ SR g ph' H' (wipeD s0 (own.map (·.2))) σ' ∧
        RunE g (fun c d H' => W c d σ H') ph' H' (loopC it t bt me C1.length n i (wipeD s0 (own.map (·.2))) Ch') Q) ?_ it.fuel ⟨0, _, _, _, H3, I4.wish xe, st4, fun b hb => (f3 b hb).1.1, List.prefix_rfl, k3, S3, R3, hx3⟩
    rintro n s5 ⟨i, σ5, ph5, Ch5, H5, I5, st5, n5, p5, k5, S5, R5, h5⟩
    rw [hxe]
    cases n with
    | zero => exact h5.elim
    | succ n =>
      have q := itr i ph5 Ch5 H5 ((List.prefix_append _ _).trans p5) k5 S5
      unfold loopC at h5
      cases e1 : it.nxt i Ch5 with
      | bad => rw [e1] at h5; exact h5.elim
      | stop =>
        rw [e1] at q h5
        refine noE (T.done (Cx.blkx X s3 H3 scope cl Cd fp xe) rfl rfl rfl hc i [] s5 _ H5 (fun _ _ => False) I5 (stat I5 n5) st5 q) fun r s6 ⟨hr, I6⟩ => ?_
        subst hr
        have I7 : Inv X pins σ H5 s6 := I3.call' (ch := fp) I6.os I6.base I6.hok I6.bare ff
        have nC : H5 Cd = none := I6.free
        obtain ⟨m, hn, _⟩ := I6.loc
        exact hRR D Cd s6 m H5 I7 (run_val h5 S5 (.ref (Pre.get p5 eD))) hn (I3.fpOk (Nat.le_of_eq hce) nC)
      | item d =>
        rw [e1] at q h5
        obtain ⟨go, step⟩ := q
        refine noE (T.item (Cx.blkx X s3 H3 scope cl Cd fp xe) rfl rfl rfl hc i [] s5 _ H5 (fun _ _ => False) I5 (stat I5 n5) st5 go) fun r s6 ⟨u, hr, h6⟩ => ?_
        subst hr
        refine noE h6 fun _ s7 ⟨x, H7, I7, r7, y7, st7, n7⟩ => ?_
        obtain ⟨k7, S7, rd7⟩ := step x H7 y7
        have R7 := R5.up List.prefix_rfl k7
        have h7 := run_up List.prefix_rfl k7 h5
        have I7' := I7.pinned (stat I7 n7) (T.obj _ _ st7)
        simp only at h7
        cases e2 : t d (wipeD s0 (own.map (·.2))) Ch5 with
        | exc x C => rw [e2] at h7; exact h7.elim
        | bad => rw [e2] at h7; exact h7.elim
        | val sl1 Ch8 =>
          rw [e2] at h7
          simp only at h7
          have sub1 : Mp.Sub (wipeD s0 (own.map (·.2))) sl1 := ho d s0 _ Ch5 sl1 Ch8 (Mp.Sub.refl _) e2
          -- the turn's end
          have fin : ∀ {s' : Shared} {H' : Hp} {σ' : L2.St} {ph' : List Addr} {Ch' : Hs}, Inv (Cx.blkx X s3 H3 scope cl Cd fp xe) ([] ++ pinsAt fp s7.heap) σ' H' s' → Pre (ph1 ++ [D]) ph' → Keep g H2 H' → Sim g ph' Ch' H' → SR g ph' H' (wipeD s0 (own.map (·.2))) σ' →
              RunE g (fun c d H' => W c d σ H') ph' H' (loopC it t bt me C1.length n (i + 1) (wipeD s0 (own.map (·.2))) Ch') Q → ∃ m, m < n + 1 ∧ ∃ i σ' ph' Ch' H', Inv (Cx.blkx X s3 H3 scope cl Cd fp xe) [] σ' H' s' ∧ tn i s'.heap ∧ (∀ b ∈ fp, H' b = none) ∧ Pre (ph1 ++ [D]) ph' ∧ Keep g H2 H' ∧ Sim g ph' Ch' H' ∧ SR g ph' H' (wipeD s0 (own.map (·.2))) σ' ∧
              RunE g (fun c d H' => W c d σ H') ph' H' (loopC it t bt me C1.length m i (wipeD s0 (own.map (·.2))) Ch') Q := fun {s' H' σ' ph' Ch'} I' pp kk SS RR hh => by
            have pin' : ∀ b ∈ fp, ∀ o, s7.heap.get? b = some o → s'.heap.get? b = some o ∧ H' b = none := fun b hb o e =>
              let z := I'.pin (b, o) (List.mem_append_right _ (List.mem_append_right _ (mem_pinsAt hb e)))
              ⟨z.1, z.2.1⟩
            refine ⟨n, Nat.lt_succ_self n, i + 1, σ', ph', Ch', H', I'.unpinned (pins := []), T.keep _ _ _ st7 fun b hb o e => (pin' b hb o e).1, fun b hb => ?_, pp, kk, SS, RR, hh⟩
            obtain ⟨o, e, _⟩ := T.obj _ _ st7 b hb
            exact (pin' b hb o e).2
          refine wpAny_mono (pg.run _ s7 σ5 H7 x u (fun σ8 H8 => ∃ ph8, Pre ph5 ph8 ∧ Keep g H7 H8 ∧ Sim g ph8 Ch8 H8 ∧ SR g ph8 H8 sl1 σ8 ∧ RunE g (fun c d H' => W c d σ H') ph8 H8 ((bt sl1 Ch8).bind fun b C2 => if b = true then (me sl1 C2).bind fun y C3 => match C3[C1.length]? with
              | some (.lst acc) => if acc.length < sizeLine then loopC it t bt me C1.length n (i + 1) (wipeD s0 (own.map (·.2))) (C3.set C1.length (.lst (acc ++ [y]))) else .bad
              | _ => .bad
            else loopC it t bt me C1.length n (i + 1) (wipeD s0 (own.map (·.2))) C2) Q) I7' r7 ⟨ph5, _, Ch5, d, S7, R7, rd7, ?_⟩) (fun _ s8 hu => ?_) fun _ _ z => z
          · rw [e2]
            exact fun σ8 H8 ph8 p8 k8 S8 R8 => ⟨ph8, p8, k8, S8, R8, run_up p8 k8 h7⟩
          · obtain ⟨σ8, H8, I8, ph8, p8, k8, S8, R8, h8⟩ := hu
            refine wpAny_mono (pt.run _ s8 σ8 H8 (fun b H9 => ∃ ph9 C9, Pre ph8 ph9 ∧ Keep g H8 H9 ∧ Sim g ph9 C9 H9 ∧ RunE g (fun c d H' => W c d σ H') ph9 H9 (if b = true then (me sl1 C9).bind fun y C3 => match C3[C1.length]? with
                | some (.lst acc) => if acc.length < sizeLine then loopC it t bt me C1.length n (i + 1) (wipeD s0 (own.map (·.2))) (C3.set C1.length (.lst (acc ++ [y]))) else .bad
                | _ => .bad
              else loopC it t bt me C1.length n (i + 1) (wipeD s0 (own.map (·.2))) C9) Q) I8 ⟨ph8, sl1, Ch8, S8, R8, run_bind h8 fun b H9 ph9 b' C9 p9 k9 S9 r9 h9 => by cases r9; exact ⟨ph9, C9, p9, k9, S9, h9⟩⟩) (fun b s9 hu => ?_) fun _ _ z => z
            obtain ⟨H9, I9, ph9, C9, p9, k9, S9, h9⟩ := hu
            have R9 := R8.up p9 k9
            have pp9 : Pre (ph1 ++ [D]) ph9 := p5.trans (p8.trans p9)
            have kk9 : Keep g H2 H9 := k5.trans (k7.trans (k8.trans k9))
            cases b with
            | false =>
              simp only [Bool.false_eq_true, if_false] at h9 ⊢
              exact fin I9 pp9 kk9 S9 (R9.sub sub1) h9
            | true =>
              simp only [if_true] at h9 ⊢
              refine wpAny_mono (pe.run _ s9 σ8 H9 (fun yv H10 => ∃ ph10 C10 y, Pre ph9 ph10 ∧ Keep g H9 H10 ∧ Sim g ph10 C10 H10 ∧ RD g ph10 H10 y yv ∧ RunE g (fun c d H' => W c d σ H') ph10 H10 (match C10[C1.length]? with
                  | some (.lst acc) => if acc.length < sizeLine then loopC it t bt me C1.length n (i + 1) (wipeD s0 (own.map (·.2))) (C10.set C1.length (.lst (acc ++ [y]))) else .bad
                  | _ => .bad) Q) I9 ⟨ph9, sl1, C9, S9, R9, run_bind h9 fun yv H10 ph10 y C10 p10 k10 S10 r10 h10 => ⟨ph10, C10, y, p10, k10, S10, r10, h10⟩⟩) (fun z s10 hu => ?_) fun _ _ z => z
              obtain ⟨yv, H10, I10, rz, ph10, C10, y, p10, k10, S10, ry, h10⟩ := hu
              split at h10
              · next acc hacc =>
                split at h10
                · next hz =>
                  have eD10 := Pre.get (pp9.trans p10) eD
                  obtain ⟨vs, hD10, rs⟩ := S10.get eD10 hacc
                  have kq := S10.keep (ho := .lst (vs ++ [yv])) eD10 hacc trivial
                  refine app_ok (X := Cx.blkx X s3 H3 scope cl Cd fp xe) I10 hD10 (by rw [← rs.length]; exact hz) rz fun s11 I11 => ?_
                  refine fin I11 (pp9.trans p10) (kk9.trans (k10.trans kq)) (S10.set (o' := .lst (acc ++ [y])) eD10 hacc trivial trivial ⟨_, upd_same, (rs.append (.cons ry .nil)).up List.prefix_rfl kq⟩) (((R9.up p10 k10).up List.prefix_rfl kq).sub sub1) (run_up List.prefix_rfl kq h10)
                · exact h10.elim
              · exact h10.elim
  exact codeAny_compStart_list loop (T.self X.A 0 _ _ _ st4 loop)
theorem j_lc {elt tg iter : Expr} {ifs : List Expr} {scope : Scope} {mi : MI} {t : MG} {bt : MB} {me : ME} (own : List (Str × Nat)) (tk : Takes X W) (hN : X.N.Nodup) (hi : JI g W X tg iter mi) (ok : BlkOk X.N X.env.scope scope own) (ho : OwnT t (own.map (·.2)))
    (hg : ∀ (s : Shared) (H : Hp) (cl : List (Str × Addr)) (C : Addr) (fp : List Addr) (xe : Value → Shared → Prop), JG g (Cx.blkx X s H scope cl C fp xe) tg t)
    (ht : ∀ (s : Shared) (H : Hp) (cl : List (Str × Addr)) (C : Addr) (fp : List Addr) (xe : Value → Shared → Prop) (W' : WX), (∀ σ, PassesAt (L2.CX X.prog X.w) (Cx.blkx X s H scope cl C fp xe) σ (WE W' σ)) → JTs g W' (Cx.blkx X s H scope cl C fp xe) ifs bt)
    (he : ∀ (s : Shared) (H : Hp) (cl : List (Str × Addr)) (C : Addr) (fp : List Addr) (xe : Value → Shared → Prop) (W' : WX), (∀ σ, PassesAt (L2.CX X.prog X.w) (Cx.blkx X s H scope cl C fp xe) σ (WE W' σ)) → JE g W' (Cx.blkx X s H scope cl C fp xe) elt me)
    (hs : X.stack = X.env :: X.outer := by rfl) (hf : X.env.frame = some X.env.locals := by rfl) (hc : X.calm = true := by rfl) (hfs : ∀ x, foldedSetIterable iter X.env x = pure x := by intro _; rfl) :
    JE g W X (.ListComp elt [⟨tg, iter, ifs, 0⟩] scope pos) (eLc mi t bt me (own.map (·.2))) := by
  refine ⟨fun pins s σ H Q I h => ?_⟩
  rw [eval_ListComp]
  refine lc_main tk hs hf hc hN hi ok ho hg ht he hfs I h fun D C s' m H' I' q hn f => ⟨m, hn, fun h'' sb => ?_⟩
  obtain ⟨f0, f1, f2, f3, f4, f5⟩ := f
  exact ⟨.ref D, H', I'.turned (t' := s'.toks) (fun b o hb e => (sb.2 b hb).trans e) f0 f1 f3 f4 f5, rfl, q⟩
/-- name = [..] on one line -/
theorem st_setLc {i : Nat} {y : Str} {py spos : Pos} {elt tg iter : Expr} {ifs : List Expr} {scope : Scope} {mi : MI} {t : MG} {bt : MB} {me : ME} (own : List (Str × Nat)) (tk : Takes X W) (hN : X.N.Nodup) (hy : X.N[i]? = some y) (hyl : X.env.scope.names.lookup y = some .local)
    (hsw : swapsWith (.ListComp elt [⟨tg, iter, ifs, 0⟩] scope pos) (some (.Name y py)) spos.line X.env = pure true) (hi : JI g W X tg iter mi) (ok : BlkOk X.N X.env.scope scope own) (ho : OwnT t (own.map (·.2)))
    (hg : ∀ (s : Shared) (H : Hp) (cl : List (Str × Addr)) (C : Addr) (fp : List Addr) (xe : Value → Shared → Prop), JG g (Cx.blkx X s H scope cl C fp xe) tg t)
    (ht : ∀ (s : Shared) (H : Hp) (cl : List (Str × Addr)) (C : Addr) (fp : List Addr) (xe : Value → Shared → Prop) (W' : WX), (∀ σ, PassesAt (L2.CX X.prog X.w) (Cx.blkx X s H scope cl C fp xe) σ (WE W' σ)) → JTs g W' (Cx.blkx X s H scope cl C fp xe) ifs bt)
    (he : ∀ (s : Shared) (H : Hp) (cl : List (Str × Addr)) (C : Addr) (fp : List Addr) (xe : Value → Shared → Prop) (W' : WX), (∀ σ, PassesAt (L2.CX X.prog X.w) (Cx.blkx X s H scope cl C fp xe) σ (WE W' σ)) → JE g W' (Cx.blkx X s H scope cl C fp xe) elt me)
    (hs : X.stack = X.env :: X.outer := by rfl) (hf : X.env.frame = some X.env.locals := by rfl) (hc : X.calm = true := by rfl) (hfs : ∀ x, foldedSetIterable iter X.env x = pure x := by intro _; rfl) :
    JS g W X (.Assign [.Name y py] (.ListComp elt [⟨tg, iter, ifs, 0⟩] scope pos) spos) (sAsg (eLc mi t bt me (own.map (·.2))) (tgN i)) := by
  refine ⟨fun pins s σ H D I h => ?_⟩
  rw [exec_Assign_Name_used _ _ _ _ hsw]
  refine wpAny_bind (wpAny_standAt (wpAny_bind ?_))
  have h' := name_reads h
  show wpAny _ X.A (do let _ ← comprehension (.ListComp elt [⟨tg, iter, ifs, 0⟩] scope pos) scope X.env (firstIterPos [⟨tg, iter, ifs, 0⟩] pos) (newList []) false (eval iter X.env) (some (assign (.Name y py) X.env))) _ _ s
  refine wpAny_bind (thn (lc_main (Qf := fun _ s' => SP X pins D .next s') (Q := fun x H1 => gName i x σ H1 D.nx) tk hs hf hc hN hi ok ho hg ht he hfs I h' fun L C s' m H' I' q hn f => ?_) fun _ s' hq => wpAny_pure (wpAny_pure hq))
  show wpAny _ _ (assign (.Name y py) X.env (.ref L)) _ _ _
  refine wpAny_assign_Name (store_ok2 (v := V.ref L) I' hN hy (.inl hyl) rfl (fun s2 I2 ⟨a, sb, ha⟩ => ?_) (.inr hyl))
  obtain ⟨f0, f1, f2, f3, f4, f5⟩ := f
  have haC : C ≠ a := ha.elim (fun z => by rw [z]; exact f1) fun z e => f4 y a z e.symm
  exact ⟨m, hn.sameBut sb haC, fun h3 sb3 => ⟨_, H', I2.turned (t' := s2.toks) (fun b o hb e => (sb3.2 b hb).trans e) f0 f1 f3 f4 f5, q⟩⟩
end
end Mp
namespace Mp
open PySem PySem.Spec PyProof.Rows L2
/-! # methods of lists, by values -/
/-- a list or a text, whose method is called -/
def isRecv (T : String) (C : Hs) : D → Bool
  | .str _ => T == "str"
  | .ref i => match C[i]? with
    | some (.lst _) => T == "list"
    | some (.frz _) => T == "list"
    | some (.dic _) => T == "dict"
    | some (.dit _) => T == "dict"
    | _ => false
  | _ => false
def SM (g : G) (f : D → List D → Hs → R D) (r : V → List V → Hp → VK → Prop) : Prop := ∀ (ph : List Addr) (C : Hs) (H : Hp) (x : D) (xs : List D) (v : V) (vs : List V) (Q : VK) (E : XK), Sim g ph C H → RD g ph H x v → RDs g ph H xs vs → RunE g E ph H (f x xs C) Q → r v vs H Q
def eMeth (T : String) (f : D → List D → Hs → R D) (m : ME) (l : ML) : ME := fun s C => (m s C).bind fun x C1 => if isRecv T C1 x = true then (l s C1).bind fun xs C2 => f x xs C2 else .bad
def eMeth0 (T : String) (f : D → List D → Hs → R D) (m : ME) : ME := fun s C => (m s C).bind fun x C1 => if isRecv T C1 x = true then f x [] C1 else .bad
section
variable {g : G} {W : WX} {X : Cx} {o e : Expr} {es : List Expr} {mo : ME} {l : ML} {name : Str} {apos cpos : Pos} {T id : String} {r : V → List V → Hp → VK → Prop} {f : D → List D → Hs → R D}
theorem recv_reads {ph : List Addr} {C : Hs} {H : Hp} {d : D} {v : V} (S : Sim g ph C H) (r : RD g ph H d v) (h : isRecv T C d = true) : tyV g.K T v H := by
  cases r with
  | str z => exact eq_of_beq h
  | ref e =>
    simp only [isRecv] at h
    split at h
    · next hC => obtain ⟨vs, h1, _⟩ := frz_seq S e (.inl hC); exact .inl ⟨eq_of_beq h, vs, h1⟩
    · next hC => obtain ⟨vs, h1, _⟩ := frz_seq S e (.inr hC); exact .inl ⟨eq_of_beq h, vs, h1⟩
    · next hC => obtain ⟨vs, h1, _⟩ := S.get e hC; exact .inr (.inr (.inl ⟨eq_of_beq h, .inl ⟨vs, h1⟩⟩))
    · next hC => obtain ⟨vs, h1, _⟩ := S.get e hC; exact .inr (.inr (.inl ⟨eq_of_beq h, .inr ⟨vs, h1⟩⟩))
    · cases h
  | non => cases h
  | bl _ => cases h
  | int _ => cases h
  | tup _ _ => cases h
  | fn _ => cases h
theorem j_meth (pa : PlainAttrs T) (slot : Slot T name id) (hty : typeOf (.builtin id) = pure (.type "method_descriptor")) (hm : MtR X id r) (hS : SM g f r) (ho : JE g W X o mo) (ha : JL g W X (e :: es) l) (hK : X.K = g.K := by rfl)
    (hbase : attributeBase o name X.env (eval o X.env) = eval o X.env := by rfl)
    (hfew : ((backTo cpos (starEach (e :: es) X.env)).all (fun x => !x.1) && (backToKw cpos (keywordEach [] X.env)).all (fun x => x.1.isSome)
      && decide ((e :: es).length + ([] : List Keyword).length + (if ([] : List Keyword).isEmpty then 0 else 1) < 30)) = true := by rfl)
    (hline : (apos.endLine == cpos.line) = true := by rfl) (hs : starEach (e :: es) X.env = (false, eval e X.env) :: starEach es X.env := by rfl) (hplain : (backTo cpos (starEach es X.env)).any (·.1) = false := by rfl) :
    JE g W X (.Call (.Attribute o name apos) (e :: es) [] cpos) (eMeth T f mo l) :=
  PE.imp (pe_bm pa slot hty hm ho ha hbase hfew hline hs hplain) fun σ H Q ⟨ph, s, C, S, R, h⟩ => ⟨ph, s, C, S, R, run_bind h fun v H1 ph1 d C1 p k S1 r1 h1 => by
    by_cases q : isRecv T C1 d = true
    · rw [if_pos q] at h1
      exact ⟨hK ▸ recv_reads S1 r1 q, ph1, s, C1, S1, R.up p k, run_bind h1 fun vs H2 ph2 xs C2 p2 k2 S2 r2 h2 => hS ph2 C2 H2 d xs v vs Q _ S2 (r1.up p2 k2) r2 h2⟩
    · rw [if_neg q] at h1; exact h1.elim⟩
theorem j_meth0 (pa : PlainAttrs T) (slot : Slot T name id) (hty : typeOf (.builtin id) = pure (.type "method_descriptor")) (hm : MtR X id r) (hS : SM g f r) (ho : JE g W X o mo) (hK : X.K = g.K := by rfl)
    (hbase : attributeBase o name X.env (eval o X.env) = eval o X.env := by rfl) (hline : (apos.endLine == cpos.line) = true := by rfl) : JE g W X (.Call (.Attribute o name apos) [] [] cpos) (eMeth0 T f mo) :=
  PE.imp (pe_bm0 pa slot hty hm ho hbase hline) fun σ H Q ⟨ph, s, C, S, R, h⟩ => ⟨ph, s, C, S, R, run_bind h fun v H1 ph1 d C1 p k S1 r1 h1 => by
    by_cases q : isRecv T C1 d = true
    · rw [if_pos q] at h1
      exact ⟨hK ▸ recv_reads S1 r1 q, hS ph1 C1 H1 d [] v [] Q _ S1 r1 .nil h1⟩
    · rw [if_neg q] at h1; exact h1.elim⟩
end
def mAppend (x : D) (xs : List D) (C : Hs) : R D := match x, xs with
  | .ref i, [y] => match C[i]? with
    | some (.lst ds) => if ds.length < sizeLine then .val .non (C.set i (.lst (ds ++ [y]))) else .bad
    | _ => .bad
  | _, _ => .bad
section
variable {g : G}
theorem s_append : SM g mAppend rAppend := fun ph C H x xs v vs Q E S rx rs q => by
  cases rx <;> first | exact q.elim | skip
  rename_i i a e
  cases rs with
  | nil => exact q.elim
  | cons ry r =>
    cases r with
    | cons _ _ => exact q.elim
    | nil =>
      simp only [mAppend] at q
      split at q
      · next ds hC =>
        by_cases hl : ds.length < sizeLine
        · rw [if_pos hl] at q
          obtain ⟨vs, h1, rv⟩ := S.get e hC
          refine ⟨a, vs, _, rfl, rfl, h1, by rw [← rv.length]; exact hl, ?_⟩
          exact run_set q S e hC trivial trivial (fun k => ⟨_, upd_same, (rv.append (.cons ry .nil)).up List.prefix_rfl k⟩) fun _ => .non
        · rw [if_neg hl] at q; exact q.elim
      · exact q.elim
end

/-! # in-place operators -/
def oAddI (x y : D) (C : Hs) : R D := match x, y with
  | .int i, .int j => .val (.int (i + j)) C
  | .str a, .str b => if a.length + b.length ≤ sizeLine then .val (.str (a ++ b)) C else .bad
  | _, _ => .bad
def rAddI : R2 := fun x y H Q => (rI0 (fun i j => .int (i + j)) x y H Q) ∨ (∃ i j, x = .str i ∧ y = .str j ∧ i.length + j.length ≤ sizeLine ∧ Q (.str (i ++ j)) H)
theorem iop_addI {X : Cx} : OpR X (inplaceOp .Add) rAddI := iop_add.or iop_add_str
theorem s_addI {g : G} : S2 g oAddI rAddI := fun ph C H x y v w Q E S rx ry q => by
  cases x <;> cases y <;> try exact q.elim
  · cases rx; cases ry
    exact .inl ⟨_, _, rfl, rfl, run_val q S (.int _)⟩
  · cases rx; cases ry
    rename_i a b
    refine .inr ?_
    unfold oAddI at q
    by_cases c : a.length + b.length ≤ sizeLine
    · simp only [if_pos c] at q; exact ⟨_, _, rfl, rfl, c, run_val q S (.str _)⟩
    · simp only [if_neg c] at q; exact q.elim

/-! # short words for a text's walk -/
section
variable {g : G} {W : WX} {X : Cx} {pos pos' : Pos}
theorem v (i : Nat) {x : Str} (hN : X.N[i]? = some x := by rfl) (hv : Vis X.env.scope x := by first | exact Or.inl rfl | exact Or.inr (Or.inl rfl) | exact Or.inr (Or.inr rfl)) (hd : (x == ("__debug__" : Str)) = false := by decide) (hcd : (x == ("__classdict__" : Str)) = false := by decide) : JE g W X (.Name x pos) (eVar i) := j_var i hN hv hd hcd
theorem unitsOf {k : Nat} (hr : Room k X.A) : X.A.units + 66 < cLine := by have := hr.un; omega
end
/-- a def of the text as it stands behind the top -/
structure DefAt (g : G) (x : Str) (st : Stmt) (dvs : List V) (f : Addr) (fd : FuncData) : Prop where
  mg : g.mg x = some (.ref f)
  fn : FunD g.K x x (defArgs st) (defBody st) (defScope st) dvs [] f fd
theorem DefAt.mk0 {g : G} {x : Str} {st : Stmt} {f : Addr} {oc : Value} {od an : Option Addr} {sl : Array (Option Value)} {kV dc pm cd ct : Value} (m : g.mg x = some (.ref f))
    (l : g.K.lookup f = some ⟨oc, od, .func (PySem.W.fnOf x x (defArgs st) (defBody st) (defScope st) .none kV dc pm an cd ct), sl⟩) (c : PySem.W.codeIn g.K cd x = true) (k : PySem.W.keepIn g.K (.ref f) = true) :
    DefAt g x st [] f (PySem.W.fnOf x x (defArgs st) (defBody st) (defScope st) .none kV dc pm an cd ct) :=
  ⟨m, ⟨_, _, _, _, _, _, _, _, _, _, rfl, l, c, .inl ⟨rfl, rfl⟩, .inl rfl⟩, k⟩
theorem DefAt.mkD {g : G} {x : Str} {st : Stmt} {f T : Addr} {oc : Value} {od an : Option Addr} {sl : Array (Option Value)} {kV dc pm cd ct : Value} {dvs : List V} {oT : Obj} {its : List Value} {nT : Nat} (m : g.mg x = some (.ref f))
    (l : g.K.lookup f = some ⟨oc, od, .func (PySem.W.fnOf x x (defArgs st) (defBody st) (defScope st) (.ref T) kV dc pm an cd ct), sl⟩) (c : PySem.W.codeIn g.K cd x = true) (k : PySem.W.keepIn g.K (.ref f) = true)
    (hd : dvs ≠ []) (lT : g.K.lookup T = some oT) (dT : oT.data = .seq its.toArray nT) (r : Vals dvs its) :
    DefAt g x st dvs f (PySem.W.fnOf x x (defArgs st) (defBody st) (defScope st) (.ref T) kV dc pm an cd ct) :=
  ⟨m, ⟨_, _, _, _, _, _, _, _, _, _, rfl, l, c, .inr ⟨hd, T, oT, its, nT, rfl, lT, dT, r⟩, .inl rfl⟩, k⟩
theorem memLookup {α β : Type} [BEq α] [LawfulBEq α] : ∀ {l : List (α × β)} {k : α} {v : β}, l.lookup k = some v → (k, v) ∈ l
  | [], _, _, h => by cases h
  | (a, b) :: l, k, v, h => by
    rw [List.lookup_cons] at h
    by_cases e : (k == a) = true
    · simp only [e] at h
      cases h
      rw [eq_of_beq e]
      exact List.mem_cons_self
    · simp only [e] at h
      exact List.mem_cons_of_mem _ (memLookup h)
/-! # values of the top -/
theorem gv_int {g : G} {x : Str} {i : Int} {t : Tok} (h : g.mg x = some (.int i t)) : GV g x (.int i) := ⟨.int i, _, h, ⟨_, rfl⟩, fun _ _ => .int i⟩
theorem gv_str {g : G} {x z : Str} {t : Tok} (h : g.mg x = some (.str z t)) : GV g x (.str z) := ⟨.str z, _, h, ⟨_, rfl⟩, fun _ _ => .str z⟩
theorem gv_fn {g : G} {x : Str} {a : Addr} {i : Nat} (h : g.mg x = some (.ref a)) (f : g.fa i = some a) : GV g x (.fn i) := ⟨.ref a, _, h, rfl, fun _ _ => .fn f⟩
theorem gv_tup {g : G} {x : Str} {a : Addr} {od : Option Addr} {its : Array Value} {n : Nat} {sl : Array (Option Value)} {vs : List V} {ds : List D} (h : g.mg x = some (.ref a)) (l : g.K.lookup a = some ⟨.type "tuple", od, .seq its n, sl⟩) (z : its.size ≤ sizeLine) (r : Vals vs its.toList) (rd : ∀ ph H, RDs g ph H ds vs) : GV g x (.tup ds) :=
  ⟨.ref a, _, h, rfl, fun ph H => .tup (.inr ⟨_, its, n, l, rfl, rfl, z, r⟩) (rd ph H)⟩
/-- the promise of the law, at the law's own script -/
def spLaw (K : PySem.W.Frag) : Sp := fun vs H Q _ => ∃ (a : Addr) (ns : List Int), vs = [.ref a] ∧ ns.length ≤ 63 ∧ (∀ z ∈ ns, Builtin.Int.intBits z ≤ 1048576) ∧ FrzL K H a (ns.map V.int) ∧ ∀ H', Q (.bl true) H'
theorem frz_of {K : PySem.W.Frag} {H : Hp} {a : Addr} {vs : List V} (o : Only H) (h : SqL K H a vs) : FrzL K H a vs := by
  rcases h with (h | ⟨ob, h⟩) | h
  · rcases o a with e | ⟨ob, xs, e⟩
    · rw [e] at h; cases h
    · rw [e] at h; cases h
  · exact .inl ⟨ob, h⟩
  · exact .inr h
theorem law_imp {b : B} {g : G} {k : Nat} {f : Addr} {fd : FuncData} {x : Str} {F : List D → Hs → R D} (O : Ok b g k f fd [x] F)
    (h : ∀ ns : List Int, ns.length ≤ 63 → (∀ z ∈ ns, Builtin.Int.intBits z ≤ 1048576) → ∃ C, F [.ref 0] [.frz (ns.map D.int)] = .val (.bl true) C) : FnOk b.prog b.w g.K g.mg b.base (L2.CX b.prog b.w) k f fd [x] (spLaw g.K) :=
  FnOk.imp O fun vs H Q E ⟨a, ns, ev, hl, hb, hf, hq⟩ => by
    subst ev
    refine ⟨rfl, [a], [.frz (ns.map D.int)], [.ref 0], ⟨rfl, fun i j c o u e1 e2 h1 h2 w1 w2 => ?_, fun i o e => ?_⟩, .cons (.ref rfl) .nil, ?_⟩
    · match i, j, h1, h2 with
      | 0, 0, _, _ => rfl
      | i + 1, _, h1, _ => simp at h1
      | _, j + 1, _, h2 => simp at h2
    · match i, e with
      | 0, e => cases e; exact ⟨a, rfl, _, hf, RDs.of_ints ns⟩
      | i + 1, e => simp at e
    · obtain ⟨C, e⟩ := h ns hl hb
      rw [e]
      intro v H' ph' _ _ _ r
      cases r
      exact hq H'
/-- whether an error of the class at A is caught by the name of the class at C -/
theorem exm_in {K : PySem.W.Frag} {A C : Addr} {r : Bool} (h1 : PySem.W.subIn K (.ref C) (.type "BaseException") = some true) (h2 : PySem.W.isClsIn K C = true) (h3 : PySem.W.typeIn K (.ref C) = some (.type "type")) (h4 : PySem.W.subIn K (.ref A) (.ref C) = some r) : PySem.W.exmOne K (.ref A) (.ref C) = some r := by
  have e2 : ((PySem.W.clsIn K C).isSome && PySem.W.typeIn K (.ref C) == some (.type "type")) = true := by
    have h2' : (PySem.W.clsIn K C).isSome = true := h2
    rw [h2', h3]; rfl
  unfold PySem.W.exmOne
  rw [if_pos (by rw [h1]; rfl)]
  show (if ((PySem.W.clsIn K C).isSome && PySem.W.typeIn K (.ref C) == some (.type "type")) = true then PySem.W.subIn K (.ref A) (.ref C) else none) = some r
  rw [if_pos e2]
  exact h4
end Mp
namespace Lw
open PySem PySem.Spec PyProof.Rows L2 Mp
def c_MONTHS : D := (D.tup [(D.int 31), (D.int 28), (D.int 31), (D.int 30), (D.int 31), (D.int 30), (D.int 31), (D.int 31), (D.int 30), (D.int 31), (D.int 30), (D.int 31)])
def c_YEAR : D := (D.int 365)
def c_COUNTS : D := (D.tup [(D.str "fixed"), (D.str "thirty"), (D.str "plain")])
def subT : List ((Str × Str) × Bool) := [(("InvalidDay", "ConsolError"), true), (("InvalidDay", "InvalidWord"), false), (("InvalidDay", "InvalidDay"), true), (("DivisionByZero", "ConsolError"), true), (("DivisionByZero", "InvalidWord"), false), (("DivisionByZero", "InvalidDay"), false), (("InvalidWord", "ConsolError"), true), (("InvalidWord", "InvalidWord"), true), (("InvalidWord", "InvalidDay"), false)]
def sub (a c : Str) : Option Bool := subT.lookup (a, c)
def m_month_length : MS := (sSeq (sIf (bNot (toB (eChain oLe oLe (eC (.int 1)) (eVar 0) (eC (.int 12))))) (sRaise "InvalidDay") sSkip)
  (sRet (eBin oIx (eC c_MONTHS) (eBin oSub (eVar 0) (eC (.int 1))))))
def F_month_length : List D → Hs → R D := fnF 1 1 m_month_length
def m_date_of : MS := (sSeq (sIf (toB (eBin oLt (eVar 0) (eC (.int 0)))) (sRaise "InvalidDay") sSkip)
  (sSeq (sAsg (eBin oMod (eCall fInt (lCons (eVar 0) lNil)) (eC c_YEAR)) (tgN 1))
  (sSeq (sAsg (eC (.int 1)) (tgN 2))
  (sSeq (sWhile (toB (eBin oGe (eVar 1) (eBin oIx (eC c_MONTHS) (eBin oSub (eVar 2) (eC (.int 1)))))) (sSeq (sAug 1 oSub (eBin oIx (eC c_MONTHS) (eBin oSub (eVar 2) (eC (.int 1)))))
  (sAug 2 oAddI (eC (.int 1)))))
  (sRet (eTup (lCons (eBin oFdiv (eVar 0) (eC c_YEAR)) (lCons (eVar 2) (lCons (eBin oAdd (eVar 1) (eC (.int 1))) lNil)))))))))
def F_date_of : List D → Hs → R D := fnF 1 3 m_date_of
def m_day_of : MS := (sSeq (sIf (bOr (toB (eBin oLt (eVar 0) (eC (.int 0)))) (bOr (bNot (toB (eChain oLe oLe (eC (.int 1)) (eVar 1) (eC (.int 12))))) (bNot (toB (eChain oLe oLe (eC (.int 1)) (eVar 2) (eBin oIx (eC c_MONTHS) (eBin oSub (eVar 1) (eC (.int 1))))))))) (sRaise "InvalidDay") sSkip)
  (sRet (eBin oSub (eBin oAdd (eBin oAdd (eBin oMul (eC c_YEAR) (eVar 0)) (eCall fSum (lCons (eCall fList (lCons (eSlice (eC c_MONTHS) oNone (oSome (eBin oSub (eVar 1) (eC (.int 1))))) lNil)) lNil))) (eVar 2)) (eC (.int 1)))))
def F_day_of : List D → Hs → R D := fnF 3 3 m_day_of
def m_add_months : MS := (sSeq (sAsg (eFn F_date_of [] (lCons (eVar 0) lNil)) (tgT [(tgN 2), (tgN 3), (tgN 4)]))
  (sSeq (sIf (toB (eBin oLt (eVar 1) (eC (.int 0)))) (sRaise "InvalidDay") sSkip)
  (sSeq (sAsg (eBin oAdd (eBin oSub (eBin oAdd (eBin oMul (eC (.int 12)) (eVar 2)) (eVar 3)) (eC (.int 1))) (eVar 1)) (tgN 5))
  (sSeq (sAsg (eBin oAdd (eBin oMod (eCall fInt (lCons (eVar 5) lNil)) (eC (.int 12))) (eC (.int 1))) (tgN 6))
  (sRet (eFn F_day_of [] (lCons (eBin oFdiv (eVar 5) (eC (.int 12))) (lCons (eVar 6) (lCons (eCall fMin2 (lCons (eVar 4) (lCons (eBin oIx (eC c_MONTHS) (eBin oSub (eVar 6) (eC (.int 1)))) lNil))) lNil)))))))))
def F_add_months : List D → Hs → R D := fnF 2 7 m_add_months
def m_schedule : MS := (sSeq (sIf (bOr (toB (eBin oLt (eVar 0) (eC (.int 0)))) (bOr (toB (eBin oGe (eVar 0) (eVar 1))) (toB (eBin oLt (eVar 2) (eC (.int 1)))))) (sRaise "InvalidDay") sSkip)
  (sSeq (sAsg (eLst lNil) (tgN 3))
  (sSeq (sAsg (eC (.int 0)) (tgN 4))
  (sSeq (sAsg (eVar 0) (tgN 5))
  (sSeq (sWhile (toB (eBin oLt (eVar 5) (eVar 1))) (sSeq (sDrop (eMeth "list" mAppend (eVar 3) (lCons (eVar 5) lNil)))
  (sSeq (sAug 4 oAddI (eVar 2))
  (sAsg (eFn F_add_months [] (lCons (eVar 0) (lCons (eVar 4) lNil))) (tgN 5)))))
  (sSeq (sDrop (eMeth "list" mAppend (eVar 3) (lCons (eVar 1) lNil)))
  (sRet (eVar 3))))))))
def F_schedule : List D → Hs → R D := fnF 3 6 m_schedule
def m_fraction : MS := (sSeq (sIf (toB (eBin oEq (eVar 1) (eC (.int 0)))) (sRaise "DivisionByZero") sSkip)
  (sSeq (sAsg (eCall fGcd (lCons (eVar 0) (lCons (eVar 1) lNil))) (tgN 2))
  (sSeq (sIf (toB (eBin oGt (eVar 1) (eC (.int 0)))) (sRet (eTup (lCons (eBin oFdiv (eVar 0) (eVar 2)) (lCons (eBin oFdiv (eVar 1) (eVar 2)) lNil)))) sSkip)
  (sRet (eTup (lCons (eBin oFdiv (eUn oNeg (eVar 0)) (eVar 2)) (lCons (eBin oFdiv (eUn oNeg (eVar 1)) (eVar 2)) lNil)))))))
def F_fraction : List D → Hs → R D := fnF 2 3 m_fraction
def m_plus : MS := (sSeq (sIf (toB (eBin oEq (eBin oIx (eVar 0) (eC (.int 1))) (eBin oIx (eVar 1) (eC (.int 1))))) (sRet (eFn F_fraction [] (lCons (eBin oAdd (eBin oIx (eVar 0) (eC (.int 0))) (eBin oIx (eVar 1) (eC (.int 0)))) (lCons (eBin oIx (eVar 0) (eC (.int 1))) lNil)))) sSkip)
  (sRet (eFn F_fraction [] (lCons (eBin oAdd (eBin oMul (eBin oIx (eVar 0) (eC (.int 0))) (eBin oIx (eVar 1) (eC (.int 1)))) (eBin oMul (eBin oIx (eVar 1) (eC (.int 0))) (eBin oIx (eVar 0) (eC (.int 1))))) (lCons (eBin oMul (eBin oIx (eVar 0) (eC (.int 1))) (eBin oIx (eVar 1) (eC (.int 1)))) lNil)))))
def F_plus : List D → Hs → R D := fnF 2 2 m_plus
def m_opposite : MS := (sRet (eTup (lCons (eUn oNeg (eBin oIx (eVar 0) (eC (.int 0)))) (lCons (eBin oIx (eVar 0) (eC (.int 1))) lNil))))
def F_opposite : List D → Hs → R D := fnF 1 1 m_opposite
def m_minus : MS := (sRet (eFn F_plus [] (lCons (eVar 0) (lCons (eFn F_opposite [] (lCons (eVar 1) lNil)) lNil))))
def F_minus : List D → Hs → R D := fnF 2 2 m_minus
def m_times : MS := (sRet (eFn F_fraction [] (lCons (eBin oMul (eBin oIx (eVar 0) (eC (.int 0))) (eBin oIx (eVar 1) (eC (.int 0)))) (lCons (eBin oMul (eBin oIx (eVar 0) (eC (.int 1))) (eBin oIx (eVar 1) (eC (.int 1)))) lNil))))
def F_times : List D → Hs → R D := fnF 2 2 m_times
def m_number : MS := (sSeq (sIf (toB (eBin oEq (eVar 0) (eC (.str "fixed")))) (sRet (eFn F_fraction [] (lCons (eVar 1) (lCons (eC (.int 365)) lNil)))) sSkip)
  (sSeq (sAsg (eFn F_date_of [] (lCons (eVar 1) lNil)) (tgT [(tgN 2), (tgN 3), (tgN 4)]))
  (sSeq (sIf (toB (eBin oEq (eVar 0) (eC (.str "thirty")))) (sRet (eFn F_fraction [] (lCons (eBin oAdd (eBin oAdd (eBin oMul (eC (.int 360)) (eVar 2)) (eBin oMul (eC (.int 30)) (eVar 3))) (eCall fMin2 (lCons (eVar 4) (lCons (eC (.int 30)) lNil)))) (lCons (eC (.int 360)) lNil)))) sSkip)
  (sSeq (sAsg (eFn F_month_length [] (lCons (eVar 3) lNil)) (tgN 5))
  (sRet (eFn F_fraction [] (lCons (eBin oSub (eBin oAdd (eBin oMul (eBin oAdd (eBin oMul (eC (.int 12)) (eVar 2)) (eVar 3)) (eVar 5)) (eVar 4)) (eC (.int 1))) (lCons (eBin oMul (eC (.int 12)) (eVar 5)) lNil))))))))
def F_number : List D → Hs → R D := fnF 2 6 m_number
def m_part : MS := (sSeq (sIf (toB (eBin oNotIn (eVar 0) (eC c_COUNTS))) (sRaiseA "InvalidWord" ["word"] (lCons (eVar 0) lNil)) sSkip)
  (sSeq (sIf (bOr (toB (eBin oLt (eVar 1) (eC (.int 0)))) (toB (eBin oGt (eVar 1) (eVar 2)))) (sRaise "InvalidDay") sSkip)
  (sRet (eFn F_minus [] (lCons (eFn F_number [] (lCons (eVar 0) (lCons (eVar 2) lNil))) (lCons (eFn F_number [] (lCons (eVar 0) (lCons (eVar 1) lNil))) lNil))))))
def F_part : List D → Hs → R D := fnF 3 3 m_part
def m_interest : MS := (sRet (eFn F_times [] (lCons (eFn F_times [] (lCons (eVar 0) (lCons (eVar 1) lNil))) (lCons (eFn F_part [] (lCons (eVar 2) (lCons (eVar 3) (lCons (eVar 4) lNil)))) lNil))))
def F_interest : List D → Hs → R D := fnF 5 5 m_interest
def m_interests : MS := (sRet (eLc (iRng (lCons (eBin oSub (eCall fLen (lCons (eVar 3) lNil)) (eC (.int 1))) lNil)) (tgN 4) bYes (eFn F_interest [] (lCons (eVar 0) (lCons (eVar 1) (lCons (eVar 2) (lCons (eBin oIx (eVar 3) (eVar 4)) (lCons (eBin oIx (eVar 3) (eBin oAdd (eVar 4) (eC (.int 1)))) lNil)))))) [4]))
def F_interests : List D → Hs → R D := fnF 4 5 m_interests
def m_law_state : MS := (sRet (eLst (lCons (eCall fList (lCons (eVar 0) lNil)) (lCons (eC (.int 0)) (lCons (eC (.int 0)) (lCons (eC (.int 1)) (lCons (eC (.int 0)) lNil)))))))
def F_law_state : List D → Hs → R D := fnF 1 1 m_law_state
def m_law_draw : MS := (sSeq (sIf (bAnd (toB (eBin oGt (eBin oIx (eVar 0) (eC (.int 4))) (eC (.int 0)))) (toB (eBin oGt (eBin oIx (eVar 0) (eC (.int 2))) (eC (.int 0))))) (sSeq (sAsg (eBin oMod (eCall fInt (lCons (eBin oIx (eVar 0) (eC (.int 2))) lNil)) (eVar 1)) (tgN 2))
  (sSeq (sAsg (eBin oFdiv (eBin oIx (eVar 0) (eC (.int 2))) (eVar 1)) (tgS setL (eVar 0) (eC (.int 2))))
  (sSeq (sAsg (eBin oSub (eBin oIx (eVar 0) (eC (.int 4))) (eC (.int 1))) (tgS setL (eVar 0) (eC (.int 4))))
  (sRet (eVar 2))))) sSkip)
  (sSeq (sAsg (eBin oAdd (eBin oIx (eVar 0) (eC (.int 3))) (eBin oMul (eC (.int 7919)) (eBin oIx (eVar 0) (eC (.int 1))))) (tgN 3))
  (sSeq (sIf (toB (eBin oLt (eBin oIx (eVar 0) (eC (.int 1))) (eCall fLen (lCons (eBin oIx (eVar 0) (eC (.int 0))) lNil)))) (sAsg (eBin oIx (eBin oIx (eVar 0) (eC (.int 0))) (eBin oIx (eVar 0) (eC (.int 1)))) (tgN 3)) sSkip)
  (sSeq (sAsg (eBin oAdd (eBin oIx (eVar 0) (eC (.int 1))) (eC (.int 1))) (tgS setL (eVar 0) (eC (.int 1))))
  (sSeq (sIf (toB (eBin oGe (eVar 3) (eBin oPow (eC (.int 10)) (eC (.int 18))))) (sSeq (sAsg (eBin oFdiv (eVar 3) (eVar 1)) (tgS setL (eVar 0) (eC (.int 2))))
  (sSeq (sAsg (eC (.int 60)) (tgS setL (eVar 0) (eC (.int 4))))
  (sRet (eBin oMod (eCall fInt (lCons (eVar 3) lNil)) (eVar 1))))) sSkip)
  (sSeq (sAsg (eBin oMod (eCall fInt (lCons (eBin oAdd (eBin oAdd (eBin oMul (eVar 3) (eC (.int 48271))) (eBin oMul (eBin oIx (eVar 0) (eC (.int 1))) (eC (.int 69621)))) (eBin oIx (eVar 0) (eC (.int 3)))) lNil)) (eC (.int 2147483647))) (tgN 4))
  (sSeq (sAsg (eBin oMod (eCall fInt (lCons (eBin oAdd (eBin oAdd (eBin oMul (eVar 4) (eC (.int 16807))) (eBin oMul (eVar 4) (eVar 4))) (eC (.int 11))) lNil)) (eC (.int 2147483629))) (tgS setL (eVar 0) (eC (.int 3))))
  (sRet (eBin oMod (eCall fInt (lCons (eBin oFdiv (eBin oIx (eVar 0) (eC (.int 3))) (eC (.int 3))) lNil)) (eVar 1))))))))))
def F_law_draw : List D → Hs → R D := fnF 2 5 m_law_draw
def m_law_lowest : MS := (sSeq (sAsg (eCall fAbs (lCons (eVar 0) lNil)) (tgN 2))
  (sSeq (sAsg (eVar 1) (tgN 3))
  (sSeq (sFor (iRng (lCons (eC (.int 5000)) lNil)) (tgN 4) (sSeq (sIf (toB (eBin oEq (eVar 3) (eC (.int 0)))) sBreak sSkip)
  (sPar 2 3 (lCons (eVar 3) (lCons (eBin oMod (eCall fInt (lCons (eVar 2) lNil)) (eVar 3)) lNil)))))
  (sSeq (sIf (toB (eBin oEq (eVar 2) (eC (.int 0)))) (sRet (eTup (lCons (eC (.int 0)) (lCons (eC (.int 1)) lNil)))) sSkip)
  (sRet (eTup (lCons (eBin oFdiv (eVar 0) (eVar 2)) (lCons (eBin oFdiv (eVar 1) (eVar 2)) lNil))))))))
def F_law_lowest : List D → Hs → R D := fnF 2 5 m_law_lowest
def m_law_plus : MS := (sRet (eFn F_law_lowest [] (lCons (eBin oAdd (eBin oMul (eBin oIx (eVar 0) (eC (.int 0))) (eBin oIx (eVar 1) (eC (.int 1)))) (eBin oMul (eBin oIx (eVar 1) (eC (.int 0))) (eBin oIx (eVar 0) (eC (.int 1))))) (lCons (eBin oMul (eBin oIx (eVar 0) (eC (.int 1))) (eBin oIx (eVar 1) (eC (.int 1)))) lNil))))
def F_law_plus : List D → Hs → R D := fnF 2 2 m_law_plus
def m_law_minus : MS := (sRet (eFn F_law_lowest [] (lCons (eBin oSub (eBin oMul (eBin oIx (eVar 0) (eC (.int 0))) (eBin oIx (eVar 1) (eC (.int 1)))) (eBin oMul (eBin oIx (eVar 1) (eC (.int 0))) (eBin oIx (eVar 0) (eC (.int 1))))) (lCons (eBin oMul (eBin oIx (eVar 0) (eC (.int 1))) (eBin oIx (eVar 1) (eC (.int 1)))) lNil))))
def F_law_minus : List D → Hs → R D := fnF 2 2 m_law_minus
def m_law_times : MS := (sRet (eFn F_law_lowest [] (lCons (eBin oMul (eBin oIx (eVar 0) (eC (.int 0))) (eBin oIx (eVar 1) (eC (.int 0)))) (lCons (eBin oMul (eBin oIx (eVar 0) (eC (.int 1))) (eBin oIx (eVar 1) (eC (.int 1)))) lNil))))
def F_law_times : List D → Hs → R D := fnF 2 2 m_law_times
def m_law_lengths : MS := (sRet (eLst (lCons (eC (.int 31)) (lCons (eC (.int 28)) (lCons (eC (.int 31)) (lCons (eC (.int 30)) (lCons (eC (.int 31)) (lCons (eC (.int 30)) (lCons (eC (.int 31)) (lCons (eC (.int 31)) (lCons (eC (.int 30)) (lCons (eC (.int 31)) (lCons (eC (.int 30)) (lCons (eC (.int 31)) lNil))))))))))))))
def F_law_lengths : List D → Hs → R D := fnF 0 0 m_law_lengths
def m_law_date : MS := (sSeq (sAsg (eBin oFdiv (eVar 0) (eC (.int 365))) (tgN 1))
  (sSeq (sAsg (eBin oSub (eVar 0) (eBin oMul (eC (.int 365)) (eVar 1))) (tgN 2))
  (sSeq (sAsg (eFn0 F_law_lengths []) (tgN 3))
  (sSeq (sFor (iRng (lCons (eC (.int 12)) lNil)) (tgN 4) (sSeq (sIf (toB (eBin oLt (eVar 2) (eBin oIx (eVar 3) (eVar 4)))) (sRet (eTup (lCons (eVar 1) (lCons (eBin oAdd (eVar 4) (eC (.int 1))) (lCons (eBin oAdd (eVar 2) (eC (.int 1))) lNil))))) sSkip)
  (sAsg (eBin oSub (eVar 2) (eBin oIx (eVar 3) (eVar 4))) (tgN 2))))
  (sRet (eC .non))))))
def F_law_date : List D → Hs → R D := fnF 1 5 m_law_date
def m_law_number : MS := (sSeq (sIf (toB (eBin oEq (eVar 0) (eC (.str "fixed")))) (sRet (eFn F_law_lowest [] (lCons (eVar 1) (lCons (eC (.int 365)) lNil)))) sSkip)
  (sSeq (sAsg (eFn F_law_date [] (lCons (eVar 1) lNil)) (tgT [(tgN 2), (tgN 3), (tgN 4)]))
  (sSeq (sIf (toB (eBin oEq (eVar 0) (eC (.str "thirty")))) (sRet (eFn F_law_lowest [] (lCons (eBin oAdd (eBin oAdd (eBin oMul (eC (.int 360)) (eVar 2)) (eBin oMul (eC (.int 30)) (eVar 3))) (eCall fMin2 (lCons (eVar 4) (lCons (eC (.int 30)) lNil)))) (lCons (eC (.int 360)) lNil)))) sSkip)
  (sSeq (sAsg (eBin oIx (eFn0 F_law_lengths []) (eBin oSub (eVar 3) (eC (.int 1)))) (tgN 5))
  (sRet (eFn F_law_plus [] (lCons (eFn F_law_lowest [] (lCons (eBin oAdd (eBin oMul (eC (.int 12)) (eVar 2)) (eVar 3)) (lCons (eC (.int 12)) lNil))) (lCons (eFn F_law_lowest [] (lCons (eBin oSub (eVar 4) (eC (.int 1))) (lCons (eBin oMul (eC (.int 12)) (eVar 5)) lNil))) lNil))))))))
def F_law_number : List D → Hs → R D := fnF 2 6 m_law_number
def m_law_part : MS := (sRet (eFn F_law_minus [] (lCons (eFn F_law_number [] (lCons (eVar 0) (lCons (eVar 2) lNil))) (lCons (eFn F_law_number [] (lCons (eVar 0) (lCons (eVar 1) lNil))) lNil))))
def F_law_part : List D → Hs → R D := fnF 3 3 m_law_part
def disp (j : Nat) : List D → Hs → R D := if j = 0 then F_interests else fun _ _ => .bad
def m_law_refuses : MS := (sSeq (sTry sub (sIf (toB (eBin oEq (eCall fLen (lCons (eVar 1) lNil)) (eC (.int 1)))) (sDrop (eFnL 0 disp (lCons (eBin oIx (eVar 1) (eC (.int 0))) lNil))) (sIf (toB (eBin oEq (eCall fLen (lCons (eVar 1) lNil)) (eC (.int 2)))) (sDrop (eFnL 0 disp (lCons (eBin oIx (eVar 1) (eC (.int 0))) (lCons (eBin oIx (eVar 1) (eC (.int 1))) lNil)))) (sIf (toB (eBin oEq (eCall fLen (lCons (eVar 1) lNil)) (eC (.int 3)))) (sDrop (eFnL 0 disp (lCons (eBin oIx (eVar 1) (eC (.int 0))) (lCons (eBin oIx (eVar 1) (eC (.int 1))) (lCons (eBin oIx (eVar 1) (eC (.int 2))) lNil))))) (sDrop (eFnL 0 disp (lCons (eBin oIx (eVar 1) (eC (.int 0))) (lCons (eBin oIx (eVar 1) (eC (.int 1))) (lCons (eBin oIx (eVar 1) (eC (.int 2))) (lCons (eBin oIx (eVar 1) (eC (.int 3))) lNil))))))))) [("InvalidDay", noX (sRet (eBin oEq (eVar 2) (eC (.str "day"))))), ("InvalidWord", noX (sRet (eBin oEq (eVar 2) (eC (.str "word"))))), ("ConsolError", noX (sRet (eC (.bl false))))])
  (sRet (eC (.bl false))))
def F_law_refuses : List D → Hs → R D := fnF 3 3 m_law_refuses
def m_law_fraction : MS := (sRet (eFn F_law_lowest [] (lCons (eBin oSub (eFn F_law_draw [] (lCons (eVar 0) (lCons (eC (.int 400)) lNil))) (eC (.int 100))) (lCons (eBin oAdd (eC (.int 1)) (eFn F_law_draw [] (lCons (eVar 0) (lCons (eC (.int 30)) lNil)))) lNil))))
def F_law_fraction : List D → Hs → R D := fnF 1 1 m_law_fraction
def m_law : MS := (sSeq (sAsg (eFn F_law_state [] (lCons (eVar 0) lNil)) (tgN 1))
  (sSeq (sAsg (eFn F_law_draw [] (lCons (eVar 1) (lCons (eC (.int 40000)) lNil))) (tgN 2))
  (sSeq (sAsg (eBin oAdd (eBin oAdd (eVar 2) (eC (.int 1))) (eFn F_law_draw [] (lCons (eVar 1) (lCons (eC (.int 900)) lNil)))) (tgN 3))
  (sSeq (sAsg (eBin oIx (eLst (lCons (eC (.str "fixed")) (lCons (eC (.str "thirty")) (lCons (eC (.str "plain")) lNil)))) (eFn F_law_draw [] (lCons (eVar 1) (lCons (eC (.int 3)) lNil)))) (tgN 4))
  (sSeq (sAsg (eFn F_schedule [] (lCons (eVar 2) (lCons (eVar 3) (lCons (eBin oAdd (eC (.int 1)) (eFn F_law_draw [] (lCons (eVar 1) (lCons (eC (.int 7)) lNil)))) lNil)))) (tgN 5))
  (sSeq (sAsg (eFn F_law_fraction [] (lCons (eVar 1) lNil)) (tgN 6))
  (sSeq (sAsg (eFn F_law_fraction [] (lCons (eVar 1) lNil)) (tgN 7))
  (sSeq (sAsg (eFn F_law_times [] (lCons (eVar 6) (lCons (eVar 7) lNil))) (tgN 8))
  (sSeq (sAsg (eFn F_interest [] (lCons (eVar 6) (lCons (eVar 7) (lCons (eVar 4) (lCons (eVar 2) (lCons (eVar 3) lNil)))))) (tgN 9))
  (sSeq (sIf (toB (eBin oNe (eVar 9) (eFn F_law_times [] (lCons (eVar 8) (lCons (eFn F_law_part [] (lCons (eVar 4) (lCons (eVar 2) (lCons (eVar 3) lNil)))) lNil))))) (sRet (eC (.bl false))) sSkip)
  (sSeq (sAsg (eCall fList (lCons (eVar 5) lNil)) (tgN 10))
  (sSeq (sAsg (eFn F_interests [] (lCons (eVar 6) (lCons (eVar 7) (lCons (eVar 4) (lCons (eVar 10) lNil))))) (tgN 11))
  (sSeq (sAsg (eLc (iRng (lCons (eBin oSub (eCall fLen (lCons (eVar 5) lNil)) (eC (.int 1))) lNil)) (tgN 15) bYes (eFn F_law_times [] (lCons (eVar 8) (lCons (eFn F_law_part [] (lCons (eVar 4) (lCons (eBin oIx (eVar 5) (eVar 15)) (lCons (eBin oIx (eVar 5) (eBin oAdd (eVar 15) (eC (.int 1)))) lNil)))) lNil))) [15]) (tgN 12))
  (sSeq (sIf (bOr (bNot (bTru (eIsi "list" (eVar 11)))) (bOr (toB (eBin oNe (eVar 11) (eVar 12))) (toB (eBin oNe (eVar 10) (eVar 5))))) (sRet (eC (.bl false))) sSkip)
  (sSeq (sAsg (eTup (lCons (eC (.int 0)) (lCons (eC (.int 1)) lNil))) (tgN 13))
  (sSeq (sFor (iSeq (eVar 11)) (tgN 14) (sAsg (eFn F_law_plus [] (lCons (eVar 13) (lCons (eVar 14) lNil))) (tgN 13)))
  (sSeq (sIf (bOr (toB (eBin oNe (eVar 13) (eVar 9))) (bOr (toB (eBin oNe (eFn F_interests [] (lCons (eVar 6) (lCons (eVar 7) (lCons (eVar 4) (lCons (eLst lNil) lNil))))) (eLst lNil))) (toB (eBin oNe (eFn F_interests [] (lCons (eVar 6) (lCons (eVar 7) (lCons (eVar 4) (lCons (eLst (lCons (eC (.int 5)) lNil)) lNil))))) (eLst lNil))))) (sRet (eC (.bl false))) sSkip)
  (sSeq (sIf (bNot (bTru (eFn F_law_refuses [] (lCons (eC (.fn 0)) (lCons (eLst (lCons (eVar 6) (lCons (eVar 7) (lCons (eC (.str "other")) (lCons (eVar 5) lNil))))) (lCons (eC (.str "word")) lNil)))))) (sRet (eC (.bl false))) sSkip)
  (sRet (eFn F_law_refuses [] (lCons (eC (.fn 0)) (lCons (eLst (lCons (eVar 6) (lCons (eVar 7) (lCons (eVar 4) (lCons (eBin oAdd (eVar 5) (eLst (lCons (eBin oSub (eVar 2) (eC (.int 1))) lNil))) lNil))))) (lCons (eC (.str "day")) lNil)))))))))))))))))))))))
def F_law : List D → Hs → R D := fnF 1 16 m_law
end Lw
namespace Lw
open PySem PySem.Spec PyProof.Rows L2 Mp
def topS (i : Nat) : Stmt := PySem.Challenge.pw_consol_k13_whole_interest_adds_up.main.body.getD i (.Pass ⟨0, 0, 0, 0⟩)
abbrev s_month_length : Stmt := topS 9
abbrev N_month_length : List Str := ["month"]
theorem sc_month_length : FnScope ["month"] ["month"] (defScope s_month_length) := ⟨rfl, rfl, rfl, by decide +kernel, rfl, by decide +kernel, by decide +kernel⟩
abbrev s_date_of : Stmt := topS 10
abbrev N_date_of : List Str := ["day", "rest", "month"]
theorem sc_date_of : FnScope ["day", "rest", "month"] ["day"] (defScope s_date_of) := ⟨rfl, rfl, rfl, by decide +kernel, rfl, by decide +kernel, by decide +kernel⟩
abbrev s_day_of : Stmt := topS 11
abbrev N_day_of : List Str := ["year", "month", "number"]
theorem sc_day_of : FnScope ["year", "month", "number"] ["year", "month", "number"] (defScope s_day_of) := ⟨rfl, rfl, rfl, by decide +kernel, rfl, by decide +kernel, by decide +kernel⟩
abbrev s_add_months : Stmt := topS 12
abbrev N_add_months : List Str := ["day", "count", "year", "month", "number", "total", "later"]
theorem sc_add_months : FnScope ["day", "count", "year", "month", "number", "total", "later"] ["day", "count"] (defScope s_add_months) := ⟨rfl, rfl, rfl, by decide +kernel, rfl, by decide +kernel, by decide +kernel⟩
abbrev s_schedule : Stmt := topS 13
abbrev N_schedule : List Str := ["start", "end", "months", "days", "count", "day"]
theorem sc_schedule : FnScope ["start", "end", "months", "days", "count", "day"] ["start", "end", "months"] (defScope s_schedule) := ⟨rfl, rfl, rfl, by decide +kernel, rfl, by decide +kernel, by decide +kernel⟩
abbrev s_fraction : Stmt := topS 15
abbrev N_fraction : List Str := ["p", "q", "common"]
theorem sc_fraction : FnScope ["p", "q", "common"] ["p", "q"] (defScope s_fraction) := ⟨rfl, rfl, rfl, by decide +kernel, rfl, by decide +kernel, by decide +kernel⟩
abbrev s_plus : Stmt := topS 16
abbrev N_plus : List Str := ["a", "b"]
theorem sc_plus : FnScope ["a", "b"] ["a", "b"] (defScope s_plus) := ⟨rfl, rfl, rfl, by decide +kernel, rfl, by decide +kernel, by decide +kernel⟩
abbrev s_opposite : Stmt := topS 17
abbrev N_opposite : List Str := ["a"]
theorem sc_opposite : FnScope ["a"] ["a"] (defScope s_opposite) := ⟨rfl, rfl, rfl, by decide +kernel, rfl, by decide +kernel, by decide +kernel⟩
abbrev s_minus : Stmt := topS 18
abbrev N_minus : List Str := ["a", "b"]
theorem sc_minus : FnScope ["a", "b"] ["a", "b"] (defScope s_minus) := ⟨rfl, rfl, rfl, by decide +kernel, rfl, by decide +kernel, by decide +kernel⟩
abbrev s_times : Stmt := topS 19
abbrev N_times : List Str := ["a", "b"]
theorem sc_times : FnScope ["a", "b"] ["a", "b"] (defScope s_times) := ⟨rfl, rfl, rfl, by decide +kernel, rfl, by decide +kernel, by decide +kernel⟩
abbrev s_number : Stmt := topS 22
abbrev N_number : List Str := ["count", "day", "year", "month", "number", "length"]
theorem sc_number : FnScope ["count", "day", "year", "month", "number", "length"] ["count", "day"] (defScope s_number) := ⟨rfl, rfl, rfl, by decide +kernel, rfl, by decide +kernel, by decide +kernel⟩
abbrev s_part : Stmt := topS 23
abbrev N_part : List Str := ["count", "start", "end"]
theorem sc_part : FnScope ["count", "start", "end"] ["count", "start", "end"] (defScope s_part) := ⟨rfl, rfl, rfl, by decide +kernel, rfl, by decide +kernel, by decide +kernel⟩
abbrev s_interest : Stmt := topS 24
abbrev N_interest : List Str := ["principal", "rate", "count", "start", "end"]
theorem sc_interest : FnScope ["principal", "rate", "count", "start", "end"] ["principal", "rate", "count", "start", "end"] (defScope s_interest) := ⟨rfl, rfl, rfl, by decide +kernel, rfl, by decide +kernel, by decide +kernel⟩
abbrev s_interests : Stmt := topS 25
abbrev N_interests : List Str := ["principal", "rate", "count", "days", "at"]
theorem sc_interests : FnScope ["principal", "rate", "count", "days", "at"] ["principal", "rate", "count", "days"] (defScope s_interests) := ⟨rfl, rfl, rfl, by decide +kernel, rfl, by decide +kernel, by decide +kernel⟩
abbrev s_law_state : Stmt := topS 27
abbrev N_law_state : List Str := ["_law_script"]
theorem sc_law_state : FnScope ["_law_script"] ["_law_script"] (defScope s_law_state) := ⟨rfl, rfl, rfl, by decide +kernel, rfl, by decide +kernel, by decide +kernel⟩
abbrev s_law_draw : Stmt := topS 28
abbrev N_law_draw : List Str := ["_law_state_here", "_law_many", "_law_value", "_law_cell", "_law_first"]
theorem sc_law_draw : FnScope ["_law_state_here", "_law_many", "_law_value", "_law_cell", "_law_first"] ["_law_state_here", "_law_many"] (defScope s_law_draw) := ⟨rfl, rfl, rfl, by decide +kernel, rfl, by decide +kernel, by decide +kernel⟩
abbrev s_law_lowest : Stmt := topS 29
abbrev N_law_lowest : List Str := ["_law_p", "_law_q", "_law_first", "_law_second", "_law_turn"]
theorem sc_law_lowest : FnScope ["_law_p", "_law_q", "_law_first", "_law_second", "_law_turn"] ["_law_p", "_law_q"] (defScope s_law_lowest) := ⟨rfl, rfl, rfl, by decide +kernel, rfl, by decide +kernel, by decide +kernel⟩
abbrev s_law_plus : Stmt := topS 30
abbrev N_law_plus : List Str := ["_law_a", "_law_b"]
theorem sc_law_plus : FnScope ["_law_a", "_law_b"] ["_law_a", "_law_b"] (defScope s_law_plus) := ⟨rfl, rfl, rfl, by decide +kernel, rfl, by decide +kernel, by decide +kernel⟩
abbrev s_law_minus : Stmt := topS 31
abbrev N_law_minus : List Str := ["_law_a", "_law_b"]
theorem sc_law_minus : FnScope ["_law_a", "_law_b"] ["_law_a", "_law_b"] (defScope s_law_minus) := ⟨rfl, rfl, rfl, by decide +kernel, rfl, by decide +kernel, by decide +kernel⟩
abbrev s_law_times : Stmt := topS 32
abbrev N_law_times : List Str := ["_law_a", "_law_b"]
theorem sc_law_times : FnScope ["_law_a", "_law_b"] ["_law_a", "_law_b"] (defScope s_law_times) := ⟨rfl, rfl, rfl, by decide +kernel, rfl, by decide +kernel, by decide +kernel⟩
abbrev s_law_lengths : Stmt := topS 36
abbrev N_law_lengths : List Str := []
theorem sc_law_lengths : FnScope [] [] (defScope s_law_lengths) := ⟨rfl, rfl, rfl, by decide +kernel, rfl, by decide +kernel, by decide +kernel⟩
abbrev s_law_date : Stmt := topS 37
abbrev N_law_date : List Str := ["_law_day_here", "_law_year", "_law_rest", "_law_lengths_here", "_law_month"]
theorem sc_law_date : FnScope ["_law_day_here", "_law_year", "_law_rest", "_law_lengths_here", "_law_month"] ["_law_day_here"] (defScope s_law_date) := ⟨rfl, rfl, rfl, by decide +kernel, rfl, by decide +kernel, by decide +kernel⟩
abbrev s_law_number : Stmt := topS 43
abbrev N_law_number : List Str := ["_law_count", "_law_day_here", "_law_year", "_law_month", "_law_number_here", "_law_length"]
theorem sc_law_number : FnScope ["_law_count", "_law_day_here", "_law_year", "_law_month", "_law_number_here", "_law_length"] ["_law_count", "_law_day_here"] (defScope s_law_number) := ⟨rfl, rfl, rfl, by decide +kernel, rfl, by decide +kernel, by decide +kernel⟩
abbrev s_law_part : Stmt := topS 44
abbrev N_law_part : List Str := ["_law_count", "_law_start", "_law_end"]
theorem sc_law_part : FnScope ["_law_count", "_law_start", "_law_end"] ["_law_count", "_law_start", "_law_end"] (defScope s_law_part) := ⟨rfl, rfl, rfl, by decide +kernel, rfl, by decide +kernel, by decide +kernel⟩
abbrev s_law_refuses : Stmt := topS 45
abbrev N_law_refuses : List Str := ["_law_call", "_law_arguments", "_law_wanted"]
theorem sc_law_refuses : FnScope ["_law_call", "_law_arguments", "_law_wanted"] ["_law_call", "_law_arguments", "_law_wanted"] (defScope s_law_refuses) := ⟨rfl, rfl, rfl, by decide +kernel, rfl, by decide +kernel, by decide +kernel⟩
abbrev s_law_fraction : Stmt := topS 46
abbrev N_law_fraction : List Str := ["_law_state_here"]
theorem sc_law_fraction : FnScope ["_law_state_here"] ["_law_state_here"] (defScope s_law_fraction) := ⟨rfl, rfl, rfl, by decide +kernel, rfl, by decide +kernel, by decide +kernel⟩
abbrev s_law : Stmt := topS 47
abbrev N_law : List Str := ["_law_script", "_law_state_here", "_law_start", "_law_end", "_law_count", "_law_days", "_law_principal", "_law_rate", "_law_scale", "_law_whole", "_law_given", "_law_rows", "_law_due", "_law_found", "_law_row", "_law_at"]
theorem sc_law : FnScope ["_law_script", "_law_state_here", "_law_start", "_law_end", "_law_count", "_law_days", "_law_principal", "_law_rate", "_law_scale", "_law_whole", "_law_given", "_law_rows", "_law_due", "_law_found", "_law_row", "_law_at"] ["_law_script"] (defScope s_law) := ⟨rfl, rfl, rfl, by decide +kernel, rfl, by decide +kernel, by decide +kernel⟩
abbrev i_InvalidWord : Stmt := inClass (topS 3) 0
theorem sci_InvalidWord : FnScope ["self", "word"] ["self", "word"] (defScope i_InvalidWord) := ⟨rfl, rfl, rfl, by decide +kernel, rfl, by decide +kernel, by decide +kernel⟩
/-- what the top has left -/
structure Txt (g : G) where
  a_month_length : Addr
  d_month_length : FuncData
  h_month_length : DefAt g "month_length" s_month_length [] a_month_length d_month_length
  b_month_length : Binds g.K d_month_length ["month"] []
  a_date_of : Addr
  d_date_of : FuncData
  h_date_of : DefAt g "date_of" s_date_of [] a_date_of d_date_of
  b_date_of : Binds g.K d_date_of ["day"] []
  a_day_of : Addr
  d_day_of : FuncData
  h_day_of : DefAt g "day_of" s_day_of [] a_day_of d_day_of
  b_day_of : Binds g.K d_day_of ["year", "month", "number"] []
  a_add_months : Addr
  d_add_months : FuncData
  h_add_months : DefAt g "add_months" s_add_months [] a_add_months d_add_months
  b_add_months : Binds g.K d_add_months ["day", "count"] []
  a_schedule : Addr
  d_schedule : FuncData
  h_schedule : DefAt g "schedule" s_schedule [] a_schedule d_schedule
  b_schedule : Binds g.K d_schedule ["start", "end", "months"] []
  a_fraction : Addr
  d_fraction : FuncData
  h_fraction : DefAt g "fraction" s_fraction [V.int 1] a_fraction d_fraction
  b_fraction : Binds g.K d_fraction ["p", "q"] []
  a_plus : Addr
  d_plus : FuncData
  h_plus : DefAt g "plus" s_plus [] a_plus d_plus
  b_plus : Binds g.K d_plus ["a", "b"] []
  a_opposite : Addr
  d_opposite : FuncData
  h_opposite : DefAt g "opposite" s_opposite [] a_opposite d_opposite
  b_opposite : Binds g.K d_opposite ["a"] []
  a_minus : Addr
  d_minus : FuncData
  h_minus : DefAt g "minus" s_minus [] a_minus d_minus
  b_minus : Binds g.K d_minus ["a", "b"] []
  a_times : Addr
  d_times : FuncData
  h_times : DefAt g "times" s_times [] a_times d_times
  b_times : Binds g.K d_times ["a", "b"] []
  a_number : Addr
  d_number : FuncData
  h_number : DefAt g "_number" s_number [] a_number d_number
  b_number : Binds g.K d_number ["count", "day"] []
  a_part : Addr
  d_part : FuncData
  h_part : DefAt g "part" s_part [] a_part d_part
  b_part : Binds g.K d_part ["count", "start", "end"] []
  a_interest : Addr
  d_interest : FuncData
  h_interest : DefAt g "interest" s_interest [] a_interest d_interest
  b_interest : Binds g.K d_interest ["principal", "rate", "count", "start", "end"] []
  a_interests : Addr
  d_interests : FuncData
  h_interests : DefAt g "interests" s_interests [] a_interests d_interests
  b_interests : Binds g.K d_interests ["principal", "rate", "count", "days"] []
  a_law_state : Addr
  d_law_state : FuncData
  h_law_state : DefAt g "_law_state" s_law_state [] a_law_state d_law_state
  b_law_state : Binds g.K d_law_state ["_law_script"] []
  a_law_draw : Addr
  d_law_draw : FuncData
  h_law_draw : DefAt g "_law_draw" s_law_draw [] a_law_draw d_law_draw
  b_law_draw : Binds g.K d_law_draw ["_law_state_here", "_law_many"] []
  a_law_lowest : Addr
  d_law_lowest : FuncData
  h_law_lowest : DefAt g "_law_lowest" s_law_lowest [] a_law_lowest d_law_lowest
  b_law_lowest : Binds g.K d_law_lowest ["_law_p", "_law_q"] []
  a_law_plus : Addr
  d_law_plus : FuncData
  h_law_plus : DefAt g "_law_plus" s_law_plus [] a_law_plus d_law_plus
  b_law_plus : Binds g.K d_law_plus ["_law_a", "_law_b"] []
  a_law_minus : Addr
  d_law_minus : FuncData
  h_law_minus : DefAt g "_law_minus" s_law_minus [] a_law_minus d_law_minus
  b_law_minus : Binds g.K d_law_minus ["_law_a", "_law_b"] []
  a_law_times : Addr
  d_law_times : FuncData
  h_law_times : DefAt g "_law_times" s_law_times [] a_law_times d_law_times
  b_law_times : Binds g.K d_law_times ["_law_a", "_law_b"] []
  a_law_lengths : Addr
  d_law_lengths : FuncData
  h_law_lengths : DefAt g "_law_lengths" s_law_lengths [] a_law_lengths d_law_lengths
  b_law_lengths : Binds g.K d_law_lengths [] []
  a_law_date : Addr
  d_law_date : FuncData
  h_law_date : DefAt g "_law_date" s_law_date [] a_law_date d_law_date
  b_law_date : Binds g.K d_law_date ["_law_day_here"] []
  a_law_number : Addr
  d_law_number : FuncData
  h_law_number : DefAt g "_law_number" s_law_number [] a_law_number d_law_number
  b_law_number : Binds g.K d_law_number ["_law_count", "_law_day_here"] []
  a_law_part : Addr
  d_law_part : FuncData
  h_law_part : DefAt g "_law_part" s_law_part [] a_law_part d_law_part
  b_law_part : Binds g.K d_law_part ["_law_count", "_law_start", "_law_end"] []
  a_law_refuses : Addr
  d_law_refuses : FuncData
  h_law_refuses : DefAt g "_law_refuses" s_law_refuses [] a_law_refuses d_law_refuses
  b_law_refuses : Binds g.K d_law_refuses ["_law_call", "_law_arguments", "_law_wanted"] []
  a_law_fraction : Addr
  d_law_fraction : FuncData
  h_law_fraction : DefAt g "_law_fraction" s_law_fraction [] a_law_fraction d_law_fraction
  b_law_fraction : Binds g.K d_law_fraction ["_law_state_here"] []
  a_law : Addr
  d_law : FuncData
  h_law : DefAt g "law" s_law [] a_law d_law
  b_law : Binds g.K d_law ["_law_script"] []
  n_int : g.mg "int" = none
  n_list : g.mg "list" = none
  n_sum : g.mg "sum" = none
  n_min : g.mg "min" = none
  n_range : g.mg "range" = none
  n_len : g.mg "len" = none
  n_abs : g.mg "abs" = none
  n_isinstance : g.mg "isinstance" = none
  m_gcd : g.mg "gcd" = some (.builtin "math.gcd")
  c_MONTHS : GV g "MONTHS" Lw.c_MONTHS
  c_YEAR : GV g "YEAR" Lw.c_YEAR
  c_COUNTS : GV g "COUNTS" Lw.c_COUNTS
  E_ConsolError : Addr
  g_ConsolError : g.mg "ConsolError" = some (.ref E_ConsolError)
  E_DivisionByZero : Addr
  g_DivisionByZero : g.mg "DivisionByZero" = some (.ref E_DivisionByZero)
  E_InvalidDay : Addr
  g_InvalidDay : g.mg "InvalidDay" = some (.ref E_InvalidDay)
  E_InvalidWord : Addr
  g_InvalidWord : g.mg "InvalidWord" = some (.ref E_InvalidWord)
  e_InvalidDay : Err0 g "InvalidDay" E_InvalidDay
  e_DivisionByZero : Err0 g "DivisionByZero" E_DivisionByZero
  I_InvalidWord : Addr
  J_InvalidWord : FuncData
  o_InvalidWord : OexC g.K E_InvalidWord
  p_InvalidWord : PySem.W.findIn g.K (.ref E_InvalidWord) "__init__" = some (some (.ref I_InvalidWord))
  q_InvalidWord : PySem.W.typeIn g.K (.ref I_InvalidWord) = some (.type "function")
  r_InvalidWord_word : PySem.W.findIn g.K (.ref E_InvalidWord) "word" = some none
  u_InvalidWord : Fun g.K "__init__" "InvalidWord.__init__" i_InvalidWord I_InvalidWord J_InvalidWord
  w_InvalidWord : Binds g.K J_InvalidWord ["self", "word"] []
  z_InvalidDay_ConsolError : PySem.W.exmOne g.K (.ref E_InvalidDay) (.ref E_ConsolError) = some true
  z_InvalidDay_InvalidWord : PySem.W.exmOne g.K (.ref E_InvalidDay) (.ref E_InvalidWord) = some false
  z_InvalidDay_InvalidDay : PySem.W.exmOne g.K (.ref E_InvalidDay) (.ref E_InvalidDay) = some true
  z_DivisionByZero_ConsolError : PySem.W.exmOne g.K (.ref E_DivisionByZero) (.ref E_ConsolError) = some true
  z_DivisionByZero_InvalidWord : PySem.W.exmOne g.K (.ref E_DivisionByZero) (.ref E_InvalidWord) = some false
  z_DivisionByZero_InvalidDay : PySem.W.exmOne g.K (.ref E_DivisionByZero) (.ref E_InvalidDay) = some false
  z_InvalidWord_ConsolError : PySem.W.exmOne g.K (.ref E_InvalidWord) (.ref E_ConsolError) = some true
  z_InvalidWord_InvalidWord : PySem.W.exmOne g.K (.ref E_InvalidWord) (.ref E_InvalidWord) = some true
  z_InvalidWord_InvalidDay : PySem.W.exmOne g.K (.ref E_InvalidWord) (.ref E_InvalidDay) = some false
  fa_ok : ∀ j a, g.fa j = some a → (j = 0 ∧ a = a_interests)
  v_interests : GV g "interests" (.fn 0)
section
variable {g : G}
theorem Txt.x_InvalidWord (T : Txt g) (b : B) : Err1 b g "InvalidWord" T.E_InvalidWord T.I_InvalidWord T.J_InvalidWord ["word"] ["self", "word"] :=
  ⟨T.o_InvalidWord, T.g_InvalidWord, T.p_InvalidWord, T.q_InvalidWord, by intro f hf; simp only [List.mem_cons, List.not_mem_nil, or_false] at hf; rcases hf with rfl; exact T.r_InvalidWord_word, init1 T.u_InvalidWord sci_InvalidWord (fun _ _ _ _ _ _ => pss_one (ps_ost (pv 0) (pv 1))), T.w_InvalidWord⟩
theorem Txt.sub_ok (T : Txt g) : SubOk g sub := fun a c r A C h hA hC => by
  have hm : ((a, c), r) ∈ subT := memLookup (show List.lookup (a, c) subT = some r from h)
  simp only [subT, List.mem_cons, List.not_mem_nil, or_false, Prod.mk.injEq] at hm
  rcases hm with ⟨⟨rfl, rfl⟩, rfl⟩ | ⟨⟨rfl, rfl⟩, rfl⟩ | ⟨⟨rfl, rfl⟩, rfl⟩ | ⟨⟨rfl, rfl⟩, rfl⟩ | ⟨⟨rfl, rfl⟩, rfl⟩ | ⟨⟨rfl, rfl⟩, rfl⟩ | ⟨⟨rfl, rfl⟩, rfl⟩ | ⟨⟨rfl, rfl⟩, rfl⟩ | ⟨⟨rfl, rfl⟩, rfl⟩
  · rw [T.g_InvalidDay] at hA; rw [T.g_ConsolError] at hC; cases hA; cases hC; exact T.z_InvalidDay_ConsolError
  · rw [T.g_InvalidDay] at hA; rw [T.g_InvalidWord] at hC; cases hA; cases hC; exact T.z_InvalidDay_InvalidWord
  · rw [T.g_InvalidDay] at hA; rw [T.g_InvalidDay] at hC; cases hA; cases hC; exact T.z_InvalidDay_InvalidDay
  · rw [T.g_DivisionByZero] at hA; rw [T.g_ConsolError] at hC; cases hA; cases hC; exact T.z_DivisionByZero_ConsolError
  · rw [T.g_DivisionByZero] at hA; rw [T.g_InvalidWord] at hC; cases hA; cases hC; exact T.z_DivisionByZero_InvalidWord
  · rw [T.g_DivisionByZero] at hA; rw [T.g_InvalidDay] at hC; cases hA; cases hC; exact T.z_DivisionByZero_InvalidDay
  · rw [T.g_InvalidWord] at hA; rw [T.g_ConsolError] at hC; cases hA; cases hC; exact T.z_InvalidWord_ConsolError
  · rw [T.g_InvalidWord] at hA; rw [T.g_InvalidWord] at hC; cases hA; cases hC; exact T.z_InvalidWord_InvalidWord
  · rw [T.g_InvalidWord] at hA; rw [T.g_InvalidDay] at hC; cases hA; cases hC; exact T.z_InvalidWord_InvalidDay
theorem ok_month_length (b : B) (T : Txt g) : Ok b g 2 T.a_month_length T.d_month_length ["month"] F_month_length := ok_fn T.h_month_length.fn sc_month_length fun cdv A outer s H E hr tk hp => by
  have hu : (A.deeper (envOfC "month_length" (defScope s_month_length) s.heap.objs.size T.a_month_length cdv)).units + 66 < cLine := by have := hr.un; omega
  exact (st_cons (st_if (b_not (b_chain op_le op_le s_le s_le j_int (v 0) j_int)) (st_one (st_raise0 T.e_InvalidDay tk (by rfl))) st_nil)
    (st_one (st_ret (j_ix (j_glob rfl T.c_MONTHS) (j_bin op_sub s_sub (v 0) j_int)))))
theorem ok_date_of (b : B) (T : Txt g) : Ok b g 2 T.a_date_of T.d_date_of ["day"] F_date_of := ok_fn T.h_date_of.fn sc_date_of fun cdv A outer s H E hr tk hp => by
  have hu : (A.deeper (envOfC "date_of" (defScope s_date_of) s.heap.objs.size T.a_date_of cdv)).units + 66 < cLine := by have := hr.un; omega
  exact (st_cons (st_if (b_cmp op_lt s_lt (v 0) j_int (nomark _)) (st_one (st_raise0 T.e_InvalidDay tk (by rfl))) st_nil)
    (st_cons (st_set (i := 1) sc_date_of.nd rfl (by first | exact Or.inl rfl | exact Or.inr rfl) (j_bin op_modN s_mod (j_callTy call_int1 s_int (by rfl) T.n_int (by decide +kernel) (l_cons (v 0) l_nil)) (j_glob rfl T.c_YEAR)))
    (st_cons (st_set (i := 2) sc_date_of.nd rfl (by first | exact Or.inl rfl | exact Or.inr rfl) j_int)
    (st_cons (st_while hp (b_cmp op_ge s_ge (v 1) (j_ix (j_glob rfl T.c_MONTHS) (j_bin op_sub s_sub (v 2) j_int)) (nomark _)) (st_cons (st_aug (i := 1) iop_sub s_sub sc_date_of.nd rfl (by first | exact Or.inl rfl | exact Or.inr rfl) (j_ix (j_glob rfl T.c_MONTHS) (j_bin op_sub s_sub (v 2) j_int)))
    (st_one (st_aug (i := 2) iop_addI s_addI sc_date_of.nd rfl (by first | exact Or.inl rfl | exact Or.inr rfl) j_int))))
    (st_one (st_ret (j_tup (l_cons (j_bin op_fdivX s_fdiv (v 0) (j_glob rfl T.c_YEAR)) (l_cons (v 2) (l_cons (j_bin op_addX s_add (v 1) j_int) l_nil))))))))))
theorem ok_day_of (b : B) (T : Txt g) : Ok b g 2 T.a_day_of T.d_day_of ["year", "month", "number"] F_day_of := ok_fn T.h_day_of.fn sc_day_of fun cdv A outer s H E hr tk hp => by
  have hu : (A.deeper (envOfC "day_of" (defScope s_day_of) s.heap.objs.size T.a_day_of cdv)).units + 66 < cLine := by have := hr.un; omega
  exact (st_cons (st_if (b_wh (w_or (b_cmp op_lt s_lt (v 0) j_int (nomark _)) (w_or (b_not (b_chain op_le op_le s_le s_le j_int (v 1) j_int)) (w_or1 (b_not (b_chain op_le op_le s_le s_le j_int (v 2) (j_ix (j_glob rfl T.c_MONTHS) (j_bin op_sub s_sub (v 1) j_int)))))))) (st_one (st_raise0 T.e_InvalidDay tk (by rfl))) st_nil)
    (st_one (st_ret (j_bin op_sub s_sub (j_bin op_addX s_add (j_bin op_addX s_add (j_bin op_mulX s_mul (j_glob rfl T.c_YEAR) (v 0)) (j_callB (c_sum) s_sum (by rfl) T.n_sum (by decide +kernel) (l_cons (j_callTy c_list s_list (by rfl) T.n_list (by decide +kernel) (l_cons (j_slice (j_glob rfl T.c_MONTHS) o_none (o_some (j_bin op_sub s_sub (v 1) j_int))) l_nil)) l_nil))) (v 2)) j_int))))
theorem ok_add_months (b : B) (T : Txt g) : Ok b g 3 T.a_add_months T.d_add_months ["day", "count"] F_add_months := ok_fn T.h_add_months.fn sc_add_months fun cdv A outer s H E hr tk hp => by
  have hu : (A.deeper (envOfC "add_months" (defScope s_add_months) s.heap.objs.size T.a_add_months cdv)).units + 66 < cLine := by have := hr.un; omega
  exact (st_cons (st_asg (g_tup (g_cons (g_name sc_add_months.nd rfl (by first | exact Or.inl rfl | exact Or.inr rfl)) (g_cons (g_name sc_add_months.nd rfl (by first | exact Or.inl rfl | exact Or.inr rfl)) (g_cons (g_name sc_add_months.nd rfl (by first | exact Or.inl rfl | exact Or.inr rfl)) g_nil)))) (j_fn (ok_date_of b T) (fun _ _ h => fnF_len h) (hr.mono (by decide)) (fun σ => passAt tk σ) (by rfl) T.h_date_of.mg T.h_date_of.fn.kp T.b_date_of .nil (fun _ _ => .nil) (l_cons (v 0) l_nil)))
    (st_cons (st_if (b_cmp op_lt s_lt (v 1) j_int (nomark _)) (st_one (st_raise0 T.e_InvalidDay tk (by rfl))) st_nil)
    (st_cons (st_set (i := 5) sc_add_months.nd rfl (by first | exact Or.inl rfl | exact Or.inr rfl) (j_bin op_addX s_add (j_bin op_sub s_sub (j_bin op_addX s_add (j_bin op_mulX s_mul j_int (v 2)) (v 3)) j_int) (v 1)))
    (st_cons (st_set (i := 6) sc_add_months.nd rfl (by first | exact Or.inl rfl | exact Or.inr rfl) (j_bin op_addX s_add (j_bin op_modN s_mod (j_callTy call_int1 s_int (by rfl) T.n_int (by decide +kernel) (l_cons (v 5) l_nil)) j_int) j_int))
    (st_one (st_ret (j_fn (ok_day_of b T) (fun _ _ h => fnF_len h) (hr.mono (by decide)) (fun σ => passAt tk σ) (by rfl) T.h_day_of.mg T.h_day_of.fn.kp T.b_day_of .nil (fun _ _ => .nil) (l_cons (j_bin op_fdivX s_fdiv (v 5) j_int) (l_cons (v 6) (l_cons (j_callB (call_min2 rfl) s_min2 (by rfl) T.n_min (by decide +kernel) (l_cons (v 4) (l_cons (j_ix (j_glob rfl T.c_MONTHS) (j_bin op_sub s_sub (v 6) j_int)) l_nil))) l_nil))))))))))
theorem ok_schedule (b : B) (T : Txt g) : Ok b g 4 T.a_schedule T.d_schedule ["start", "end", "months"] F_schedule := ok_fn T.h_schedule.fn sc_schedule fun cdv A outer s H E hr tk hp => by
  have hu : (A.deeper (envOfC "schedule" (defScope s_schedule) s.heap.objs.size T.a_schedule cdv)).units + 66 < cLine := by have := hr.un; omega
  exact (st_cons (st_if (b_wh (w_or (b_cmp op_lt s_lt (v 0) j_int (nomark _)) (w_or (b_cmp op_ge s_ge (v 0) (v 1) (nomark _)) (w_or1 (b_cmp op_lt s_lt (v 2) j_int (nomark _)))))) (st_one (st_raise0 T.e_InvalidDay tk (by rfl))) st_nil)
    (st_cons (st_set (i := 3) sc_schedule.nd rfl (by first | exact Or.inl rfl | exact Or.inr rfl) (j_lst l_nil))
    (st_cons (st_set (i := 4) sc_schedule.nd rfl (by first | exact Or.inl rfl | exact Or.inr rfl) j_int)
    (st_cons (st_set (i := 5) sc_schedule.nd rfl (by first | exact Or.inl rfl | exact Or.inr rfl) (v 0))
    (st_cons (st_while hp (b_cmp op_lt s_lt (v 5) (v 1) (nomark _)) (st_cons (st_expr (j_meth PySem.F.plainAttrs_list PySem.F.slot_list_append PySem.F.type_list_append mt_append s_append (v 3) (l_cons (v 5) l_nil)))
    (st_cons (st_aug (i := 4) iop_addI s_addI sc_schedule.nd rfl (by first | exact Or.inl rfl | exact Or.inr rfl) (v 2))
    (st_one (st_set (i := 5) sc_schedule.nd rfl (by first | exact Or.inl rfl | exact Or.inr rfl) (j_fn (ok_add_months b T) (fun _ _ h => fnF_len h) (hr.mono (by decide)) (fun σ => passAt tk σ) (by rfl) T.h_add_months.mg T.h_add_months.fn.kp T.b_add_months .nil (fun _ _ => .nil) (l_cons (v 0) (l_cons (v 4) l_nil))))))))
    (st_cons (st_expr (j_meth PySem.F.plainAttrs_list PySem.F.slot_list_append PySem.F.type_list_append mt_append s_append (v 3) (l_cons (v 1) l_nil)))
    (st_one (st_ret (v 3)))))))))
theorem ok_fraction (b : B) (T : Txt g) : Ok b g 2 T.a_fraction T.d_fraction ["p", "q"] F_fraction := ok_fn T.h_fraction.fn sc_fraction fun cdv A outer s H E hr tk hp => by
  have hu : (A.deeper (envOfC "fraction" (defScope s_fraction) s.heap.objs.size T.a_fraction cdv)).units + 66 < cLine := by have := hr.un; omega
  exact (st_cons (st_if (b_cmp (op_eqX hu) s_eq (v 1) j_int (nomark _)) (st_one (st_raise0 T.e_DivisionByZero tk (by rfl))) st_nil)
    (st_cons (st_set (i := 2) sc_fraction.nd rfl (by first | exact Or.inl rfl | exact Or.inr rfl) (j_callBf cr_gcd s_gcd (by rfl) T.m_gcd (l_cons (v 0) (l_cons (v 1) l_nil))))
    (st_cons (st_if (b_cmp op_gt s_gt (v 1) j_int (nomark _)) (st_one (st_ret (j_tup (l_cons (j_bin op_fdivX s_fdiv (v 0) (v 2)) (l_cons (j_bin op_fdivX s_fdiv (v 1) (v 2)) l_nil))))) st_nil)
    (st_one (st_ret (j_tup (l_cons (j_bin op_fdivX s_fdiv (j_un un_neg s_neg (v 0)) (v 2)) (l_cons (j_bin op_fdivX s_fdiv (j_un un_neg s_neg (v 1)) (v 2)) l_nil))))))))
theorem ok_plus (b : B) (T : Txt g) : Ok b g 3 T.a_plus T.d_plus ["a", "b"] F_plus := ok_fn T.h_plus.fn sc_plus fun cdv A outer s H E hr tk hp => by
  have hu : (A.deeper (envOfC "plus" (defScope s_plus) s.heap.objs.size T.a_plus cdv)).units + 66 < cLine := by have := hr.un; omega
  exact (st_cons (st_if (b_cmp (op_eqX hu) s_eq (j_ix (v 0) j_int) (j_ix (v 1) j_int) (nomark _)) (st_one (st_ret (j_fn (ok_fraction b T) (fun _ _ h => fnF_len h) (hr.mono (by decide)) (fun σ => passAt tk σ) (by rfl) T.h_fraction.mg T.h_fraction.fn.kp T.b_fraction .nil (fun _ _ => .nil) (l_cons (j_bin op_addX s_add (j_ix (v 0) j_int) (j_ix (v 1) j_int)) (l_cons (j_ix (v 0) j_int) l_nil))))) st_nil)
    (st_one (st_ret (j_fn (ok_fraction b T) (fun _ _ h => fnF_len h) (hr.mono (by decide)) (fun σ => passAt tk σ) (by rfl) T.h_fraction.mg T.h_fraction.fn.kp T.b_fraction .nil (fun _ _ => .nil) (l_cons (j_bin op_addX s_add (j_bin op_mulX s_mul (j_ix (v 0) j_int) (j_ix (v 1) j_int)) (j_bin op_mulX s_mul (j_ix (v 1) j_int) (j_ix (v 0) j_int))) (l_cons (j_bin op_mulX s_mul (j_ix (v 0) j_int) (j_ix (v 1) j_int)) l_nil))))))
theorem ok_opposite (b : B) (T : Txt g) : Ok b g 2 T.a_opposite T.d_opposite ["a"] F_opposite := ok_fn T.h_opposite.fn sc_opposite fun cdv A outer s H E hr tk hp => by
  have hu : (A.deeper (envOfC "opposite" (defScope s_opposite) s.heap.objs.size T.a_opposite cdv)).units + 66 < cLine := by have := hr.un; omega
  exact (st_one (st_ret (j_tup (l_cons (j_un un_neg s_neg (j_ix (v 0) j_int)) (l_cons (j_ix (v 0) j_int) l_nil)))))
theorem ok_minus (b : B) (T : Txt g) : Ok b g 4 T.a_minus T.d_minus ["a", "b"] F_minus := ok_fn T.h_minus.fn sc_minus fun cdv A outer s H E hr tk hp => by
  have hu : (A.deeper (envOfC "minus" (defScope s_minus) s.heap.objs.size T.a_minus cdv)).units + 66 < cLine := by have := hr.un; omega
  exact (st_one (st_ret (j_fn (ok_plus b T) (fun _ _ h => fnF_len h) (hr.mono (by decide)) (fun σ => passAt tk σ) (by rfl) T.h_plus.mg T.h_plus.fn.kp T.b_plus .nil (fun _ _ => .nil) (l_cons (v 0) (l_cons (j_fn (ok_opposite b T) (fun _ _ h => fnF_len h) (hr.mono (by decide)) (fun σ => passAt tk σ) (by rfl) T.h_opposite.mg T.h_opposite.fn.kp T.b_opposite .nil (fun _ _ => .nil) (l_cons (v 1) l_nil)) l_nil)))))
theorem ok_times (b : B) (T : Txt g) : Ok b g 3 T.a_times T.d_times ["a", "b"] F_times := ok_fn T.h_times.fn sc_times fun cdv A outer s H E hr tk hp => by
  have hu : (A.deeper (envOfC "times" (defScope s_times) s.heap.objs.size T.a_times cdv)).units + 66 < cLine := by have := hr.un; omega
  exact (st_one (st_ret (j_fn (ok_fraction b T) (fun _ _ h => fnF_len h) (hr.mono (by decide)) (fun σ => passAt tk σ) (by rfl) T.h_fraction.mg T.h_fraction.fn.kp T.b_fraction .nil (fun _ _ => .nil) (l_cons (j_bin op_mulX s_mul (j_ix (v 0) j_int) (j_ix (v 1) j_int)) (l_cons (j_bin op_mulX s_mul (j_ix (v 0) j_int) (j_ix (v 1) j_int)) l_nil)))))
theorem ok_number (b : B) (T : Txt g) : Ok b g 3 T.a_number T.d_number ["count", "day"] F_number := ok_fn T.h_number.fn sc_number fun cdv A outer s H E hr tk hp => by
  have hu : (A.deeper (envOfC "_number" (defScope s_number) s.heap.objs.size T.a_number cdv)).units + 66 < cLine := by have := hr.un; omega
  exact (st_cons (st_if (b_cmp (op_eqX hu) s_eq (v 0) j_str (nomark _)) (st_one (st_ret (j_fn (ok_fraction b T) (fun _ _ h => fnF_len h) (hr.mono (by decide)) (fun σ => passAt tk σ) (by rfl) T.h_fraction.mg T.h_fraction.fn.kp T.b_fraction .nil (fun _ _ => .nil) (l_cons (v 1) (l_cons j_int l_nil))))) st_nil)
    (st_cons (st_asg (g_tup (g_cons (g_name sc_number.nd rfl (by first | exact Or.inl rfl | exact Or.inr rfl)) (g_cons (g_name sc_number.nd rfl (by first | exact Or.inl rfl | exact Or.inr rfl)) (g_cons (g_name sc_number.nd rfl (by first | exact Or.inl rfl | exact Or.inr rfl)) g_nil)))) (j_fn (ok_date_of b T) (fun _ _ h => fnF_len h) (hr.mono (by decide)) (fun σ => passAt tk σ) (by rfl) T.h_date_of.mg T.h_date_of.fn.kp T.b_date_of .nil (fun _ _ => .nil) (l_cons (v 1) l_nil)))
    (st_cons (st_if (b_cmp (op_eqX hu) s_eq (v 0) j_str (nomark _)) (st_one (st_ret (j_fn (ok_fraction b T) (fun _ _ h => fnF_len h) (hr.mono (by decide)) (fun σ => passAt tk σ) (by rfl) T.h_fraction.mg T.h_fraction.fn.kp T.b_fraction .nil (fun _ _ => .nil) (l_cons (j_bin op_addX s_add (j_bin op_addX s_add (j_bin op_mulX s_mul j_int (v 2)) (j_bin op_mulX s_mul j_int (v 3))) (j_callB (call_min2 rfl) s_min2 (by rfl) T.n_min (by decide +kernel) (l_cons (v 4) (l_cons j_int l_nil)))) (l_cons j_int l_nil))))) st_nil)
    (st_cons (st_set (i := 5) sc_number.nd rfl (by first | exact Or.inl rfl | exact Or.inr rfl) (j_fn (ok_month_length b T) (fun _ _ h => fnF_len h) (hr.mono (by decide)) (fun σ => passAt tk σ) (by rfl) T.h_month_length.mg T.h_month_length.fn.kp T.b_month_length .nil (fun _ _ => .nil) (l_cons (v 3) l_nil)))
    (st_one (st_ret (j_fn (ok_fraction b T) (fun _ _ h => fnF_len h) (hr.mono (by decide)) (fun σ => passAt tk σ) (by rfl) T.h_fraction.mg T.h_fraction.fn.kp T.b_fraction .nil (fun _ _ => .nil) (l_cons (j_bin op_sub s_sub (j_bin op_addX s_add (j_bin op_mulX s_mul (j_bin op_addX s_add (j_bin op_mulX s_mul j_int (v 2)) (v 3)) (v 5)) (v 4)) j_int) (l_cons (j_bin op_mulX s_mul j_int (v 5)) l_nil)))))))))
theorem ok_part (b : B) (T : Txt g) : Ok b g 5 T.a_part T.d_part ["count", "start", "end"] F_part := ok_fn T.h_part.fn sc_part fun cdv A outer s H E hr tk hp => by
  have hu : (A.deeper (envOfC "part" (defScope s_part) s.heap.objs.size T.a_part cdv)).units + 66 < cLine := by have := hr.un; omega
  exact (st_cons (st_if (b_cmp (op_notInX hu) s_notIn (v 0) (j_glob rfl T.c_COUNTS) (by with_unfolding_all rfl)) (st_one (st_raiseA (T.x_InvalidWord b) tk (hr.mono (by decide)) (by rfl) (l_cons (v 0) l_nil))) st_nil)
    (st_cons (st_if (b_wh (w_or (b_cmp op_lt s_lt (v 1) j_int (nomark _)) (w_or1 (b_cmp op_gt s_gt (v 1) (v 2) (nomark _))))) (st_one (st_raise0 T.e_InvalidDay tk (by rfl))) st_nil)
    (st_one (st_ret (j_fn (ok_minus b T) (fun _ _ h => fnF_len h) (hr.mono (by decide)) (fun σ => passAt tk σ) (by rfl) T.h_minus.mg T.h_minus.fn.kp T.b_minus .nil (fun _ _ => .nil) (l_cons (j_fn (ok_number b T) (fun _ _ h => fnF_len h) (hr.mono (by decide)) (fun σ => passAt tk σ) (by rfl) T.h_number.mg T.h_number.fn.kp T.b_number .nil (fun _ _ => .nil) (l_cons (v 0) (l_cons (v 2) l_nil))) (l_cons (j_fn (ok_number b T) (fun _ _ h => fnF_len h) (hr.mono (by decide)) (fun σ => passAt tk σ) (by rfl) T.h_number.mg T.h_number.fn.kp T.b_number .nil (fun _ _ => .nil) (l_cons (v 0) (l_cons (v 1) l_nil))) l_nil)))))))
theorem ok_interest (b : B) (T : Txt g) : Ok b g 6 T.a_interest T.d_interest ["principal", "rate", "count", "start", "end"] F_interest := ok_fn T.h_interest.fn sc_interest fun cdv A outer s H E hr tk hp => by
  have hu : (A.deeper (envOfC "interest" (defScope s_interest) s.heap.objs.size T.a_interest cdv)).units + 66 < cLine := by have := hr.un; omega
  exact (st_one (st_ret (j_fn (ok_times b T) (fun _ _ h => fnF_len h) (hr.mono (by decide)) (fun σ => passAt tk σ) (by rfl) T.h_times.mg T.h_times.fn.kp T.b_times .nil (fun _ _ => .nil) (l_cons (j_fn (ok_times b T) (fun _ _ h => fnF_len h) (hr.mono (by decide)) (fun σ => passAt tk σ) (by rfl) T.h_times.mg T.h_times.fn.kp T.b_times .nil (fun _ _ => .nil) (l_cons (v 0) (l_cons (v 1) l_nil))) (l_cons (j_fn (ok_part b T) (fun _ _ h => fnF_len h) (hr.mono (by decide)) (fun σ => passAt tk σ) (by rfl) T.h_part.mg T.h_part.fn.kp T.b_part .nil (fun _ _ => .nil) (l_cons (v 2) (l_cons (v 3) (l_cons (v 4) l_nil)))) l_nil)))))
theorem ok_interests (b : B) (T : Txt g) : Ok b g 7 T.a_interests T.d_interests ["principal", "rate", "count", "days"] F_interests := ok_fn T.h_interests.fn sc_interests fun cdv A outer s H E hr tk hp => by
  have hu : (A.deeper (envOfC "interests" (defScope s_interests) s.heap.objs.size T.a_interests cdv)).units + 66 < cLine := by have := hr.un; omega
  exact (st_one (st_ret (j_lc [("at", 4)] tk sc_interests.nd (i_rng (by rfl) T.n_range (l_cons (j_bin op_sub s_sub (j_callB c_len s_len (by rfl) T.n_len (by decide +kernel) (l_cons (v 3) l_nil)) j_int) l_nil)) (blkOk_by (N := N_interests) (sc := defScope s_interests) (by decide +kernel)) (own_name (by decide)) (fun _ _ _ _ _ _ => (g_name sc_interests.nd rfl (by first | exact Or.inl rfl | exact Or.inr rfl))) (fun _ _ _ _ _ _ _ hx => ts_nil) (fun _ _ _ _ _ _ _ hx => (j_fn (ok_interest b T) (fun _ _ h => fnF_len h) (hr.mono (by decide)) hx (by rfl) T.h_interest.mg T.h_interest.fn.kp T.b_interest .nil (fun _ _ => .nil) (l_cons (v 0) (l_cons (v 1) (l_cons (v 2) (l_cons (j_ix (v 3) (v 4)) (l_cons (j_ix (v 3) (j_bin op_addX s_add (v 4) j_int)) l_nil))))))))))
theorem ok_law_state (b : B) (T : Txt g) : Ok b g 2 T.a_law_state T.d_law_state ["_law_script"] F_law_state := ok_fn T.h_law_state.fn sc_law_state fun cdv A outer s H E hr tk hp => by
  have hu : (A.deeper (envOfC "_law_state" (defScope s_law_state) s.heap.objs.size T.a_law_state cdv)).units + 66 < cLine := by have := hr.un; omega
  exact (st_one (st_ret (j_lst (l_cons (j_callTy c_list s_list (by rfl) T.n_list (by decide +kernel) (l_cons (v 0) l_nil)) (l_cons j_int (l_cons j_int (l_cons j_int (l_cons j_int l_nil))))))))
theorem ok_law_draw (b : B) (T : Txt g) : Ok b g 2 T.a_law_draw T.d_law_draw ["_law_state_here", "_law_many"] F_law_draw := ok_fn T.h_law_draw.fn sc_law_draw fun cdv A outer s H E hr tk hp => by
  have hu : (A.deeper (envOfC "_law_draw" (defScope s_law_draw) s.heap.objs.size T.a_law_draw cdv)).units + 66 < cLine := by have := hr.un; omega
  exact (st_cons (st_if (b_wh (w_and (b_cmp op_gt s_gt (j_ix (v 0) j_int) j_int (nomark _)) (w_and1 (b_cmp op_gt s_gt (j_ix (v 0) j_int) j_int (nomark _))))) (st_cons (st_set (i := 2) sc_law_draw.nd rfl (by first | exact Or.inl rfl | exact Or.inr rfl) (j_bin op_modN s_mod (j_callTy call_int1 s_int (by rfl) T.n_int (by decide +kernel) (l_cons (j_ix (v 0) j_int) l_nil)) (v 1)))
    (st_cons (st_asg (g_sub (W := (fun cls d _ H' => E cls d H')) set_list s_setL (v 0) j_int) (j_bin op_fdivX s_fdiv (j_ix (v 0) j_int) (v 1)))
    (st_cons (st_asg (g_sub (W := (fun cls d _ H' => E cls d H')) set_list s_setL (v 0) j_int) (j_bin op_sub s_sub (j_ix (v 0) j_int) j_int))
    (st_one (st_ret (v 2)))))) st_nil)
    (st_cons (st_set (i := 3) sc_law_draw.nd rfl (by first | exact Or.inl rfl | exact Or.inr rfl) (j_bin op_addX s_add (j_ix (v 0) j_int) (j_bin op_mulX s_mul j_int (j_ix (v 0) j_int))))
    (st_cons (st_if (b_cmp op_lt s_lt (j_ix (v 0) j_int) (j_callB c_len s_len (by rfl) T.n_len (by decide +kernel) (l_cons (j_ix (v 0) j_int) l_nil)) (nomark _)) (st_one (st_set (i := 3) sc_law_draw.nd rfl (by first | exact Or.inl rfl | exact Or.inr rfl) (j_ix (j_ix (v 0) j_int) (j_ix (v 0) j_int)))) st_nil)
    (st_cons (st_asg (g_sub (W := (fun cls d _ H' => E cls d H')) set_list s_setL (v 0) j_int) (j_bin op_addX s_add (j_ix (v 0) j_int) j_int))
    (st_cons (st_if (b_cmp op_ge s_ge (v 3) (j_bin op_pow s_pow j_int j_int) (nomark _)) (st_cons (st_asg (g_sub (W := (fun cls d _ H' => E cls d H')) set_list s_setL (v 0) j_int) (j_bin op_fdivX s_fdiv (v 3) (v 1)))
    (st_cons (st_asg (g_sub (W := (fun cls d _ H' => E cls d H')) set_list s_setL (v 0) j_int) j_int)
    (st_one (st_ret (j_bin op_modN s_mod (j_callTy call_int1 s_int (by rfl) T.n_int (by decide +kernel) (l_cons (v 3) l_nil)) (v 1)))))) st_nil)
    (st_cons (st_set (i := 4) sc_law_draw.nd rfl (by first | exact Or.inl rfl | exact Or.inr rfl) (j_bin op_modN s_mod (j_callTy call_int1 s_int (by rfl) T.n_int (by decide +kernel) (l_cons (j_bin op_addX s_add (j_bin op_addX s_add (j_bin op_mulX s_mul (v 3) j_int) (j_bin op_mulX s_mul (j_ix (v 0) j_int) j_int)) (j_ix (v 0) j_int)) l_nil)) j_int))
    (st_cons (st_asg (g_sub (W := (fun cls d _ H' => E cls d H')) set_list s_setL (v 0) j_int) (j_bin op_modN s_mod (j_callTy call_int1 s_int (by rfl) T.n_int (by decide +kernel) (l_cons (j_bin op_addX s_add (j_bin op_addX s_add (j_bin op_mulX s_mul (v 4) j_int) (j_bin op_mulX s_mul (v 4) (v 4))) j_int) l_nil)) j_int))
    (st_one (st_ret (j_bin op_modN s_mod (j_callTy call_int1 s_int (by rfl) T.n_int (by decide +kernel) (l_cons (j_bin op_fdivX s_fdiv (j_ix (v 0) j_int) j_int) l_nil)) (v 1)))))))))))
theorem ok_law_lowest (b : B) (T : Txt g) : Ok b g 2 T.a_law_lowest T.d_law_lowest ["_law_p", "_law_q"] F_law_lowest := ok_fn T.h_law_lowest.fn sc_law_lowest fun cdv A outer s H E hr tk hp => by
  have hu : (A.deeper (envOfC "_law_lowest" (defScope s_law_lowest) s.heap.objs.size T.a_law_lowest cdv)).units + 66 < cLine := by have := hr.un; omega
  exact (st_cons (st_set (i := 2) sc_law_lowest.nd rfl (by first | exact Or.inl rfl | exact Or.inr rfl) (j_callB call_abs s_abs (by rfl) T.n_abs (by decide +kernel) (l_cons (v 0) l_nil)))
    (st_cons (st_set (i := 3) sc_law_lowest.nd rfl (by first | exact Or.inl rfl | exact Or.inr rfl) (v 1))
    (st_cons (st_for hp (i_rng (by rfl) T.n_range (l_cons j_int l_nil)) (g_name sc_law_lowest.nd rfl (by first | exact Or.inl rfl | exact Or.inr rfl)) (st_cons (st_if (b_cmp (op_eqX hu) s_eq (v 3) j_int (nomark _)) (st_one st_break) st_nil)
    (st_one (st_par (i := 2) (j := 3) sc_law_lowest.nd rfl rfl (by decide) rfl rfl (l_cons (v 3) (l_cons (j_bin op_modN s_mod (j_callTy call_int1 s_int (by rfl) T.n_int (by decide +kernel) (l_cons (v 2) l_nil)) (v 3)) l_nil))))))
    (st_cons (st_if (b_cmp (op_eqX hu) s_eq (v 2) j_int (nomark _)) (st_one (st_ret (j_tup (l_cons j_int (l_cons j_int l_nil))))) st_nil)
    (st_one (st_ret (j_tup (l_cons (j_bin op_fdivX s_fdiv (v 0) (v 2)) (l_cons (j_bin op_fdivX s_fdiv (v 1) (v 2)) l_nil)))))))))
theorem ok_law_plus (b : B) (T : Txt g) : Ok b g 3 T.a_law_plus T.d_law_plus ["_law_a", "_law_b"] F_law_plus := ok_fn T.h_law_plus.fn sc_law_plus fun cdv A outer s H E hr tk hp => by
  have hu : (A.deeper (envOfC "_law_plus" (defScope s_law_plus) s.heap.objs.size T.a_law_plus cdv)).units + 66 < cLine := by have := hr.un; omega
  exact (st_one (st_ret (j_fn (ok_law_lowest b T) (fun _ _ h => fnF_len h) (hr.mono (by decide)) (fun σ => passAt tk σ) (by rfl) T.h_law_lowest.mg T.h_law_lowest.fn.kp T.b_law_lowest .nil (fun _ _ => .nil) (l_cons (j_bin op_addX s_add (j_bin op_mulX s_mul (j_ix (v 0) j_int) (j_ix (v 1) j_int)) (j_bin op_mulX s_mul (j_ix (v 1) j_int) (j_ix (v 0) j_int))) (l_cons (j_bin op_mulX s_mul (j_ix (v 0) j_int) (j_ix (v 1) j_int)) l_nil)))))
theorem ok_law_minus (b : B) (T : Txt g) : Ok b g 3 T.a_law_minus T.d_law_minus ["_law_a", "_law_b"] F_law_minus := ok_fn T.h_law_minus.fn sc_law_minus fun cdv A outer s H E hr tk hp => by
  have hu : (A.deeper (envOfC "_law_minus" (defScope s_law_minus) s.heap.objs.size T.a_law_minus cdv)).units + 66 < cLine := by have := hr.un; omega
  exact (st_one (st_ret (j_fn (ok_law_lowest b T) (fun _ _ h => fnF_len h) (hr.mono (by decide)) (fun σ => passAt tk σ) (by rfl) T.h_law_lowest.mg T.h_law_lowest.fn.kp T.b_law_lowest .nil (fun _ _ => .nil) (l_cons (j_bin op_sub s_sub (j_bin op_mulX s_mul (j_ix (v 0) j_int) (j_ix (v 1) j_int)) (j_bin op_mulX s_mul (j_ix (v 1) j_int) (j_ix (v 0) j_int))) (l_cons (j_bin op_mulX s_mul (j_ix (v 0) j_int) (j_ix (v 1) j_int)) l_nil)))))
theorem ok_law_times (b : B) (T : Txt g) : Ok b g 3 T.a_law_times T.d_law_times ["_law_a", "_law_b"] F_law_times := ok_fn T.h_law_times.fn sc_law_times fun cdv A outer s H E hr tk hp => by
  have hu : (A.deeper (envOfC "_law_times" (defScope s_law_times) s.heap.objs.size T.a_law_times cdv)).units + 66 < cLine := by have := hr.un; omega
  exact (st_one (st_ret (j_fn (ok_law_lowest b T) (fun _ _ h => fnF_len h) (hr.mono (by decide)) (fun σ => passAt tk σ) (by rfl) T.h_law_lowest.mg T.h_law_lowest.fn.kp T.b_law_lowest .nil (fun _ _ => .nil) (l_cons (j_bin op_mulX s_mul (j_ix (v 0) j_int) (j_ix (v 1) j_int)) (l_cons (j_bin op_mulX s_mul (j_ix (v 0) j_int) (j_ix (v 1) j_int)) l_nil)))))
theorem ok_law_lengths (b : B) (T : Txt g) : Ok b g 2 T.a_law_lengths T.d_law_lengths [] F_law_lengths := ok_fn T.h_law_lengths.fn sc_law_lengths fun cdv A outer s H E hr tk hp => by
  have hu : (A.deeper (envOfC "_law_lengths" (defScope s_law_lengths) s.heap.objs.size T.a_law_lengths cdv)).units + 66 < cLine := by have := hr.un; omega
  exact (st_one (st_ret (j_lst (l_cons j_int (l_cons j_int (l_cons j_int (l_cons j_int (l_cons j_int (l_cons j_int (l_cons j_int (l_cons j_int (l_cons j_int (l_cons j_int (l_cons j_int (l_cons j_int l_nil)))))))))))))))
theorem ok_law_date (b : B) (T : Txt g) : Ok b g 3 T.a_law_date T.d_law_date ["_law_day_here"] F_law_date := ok_fn T.h_law_date.fn sc_law_date fun cdv A outer s H E hr tk hp => by
  have hu : (A.deeper (envOfC "_law_date" (defScope s_law_date) s.heap.objs.size T.a_law_date cdv)).units + 66 < cLine := by have := hr.un; omega
  exact (st_cons (st_set (i := 1) sc_law_date.nd rfl (by first | exact Or.inl rfl | exact Or.inr rfl) (j_bin op_fdivX s_fdiv (v 0) j_int))
    (st_cons (st_set (i := 2) sc_law_date.nd rfl (by first | exact Or.inl rfl | exact Or.inr rfl) (j_bin op_sub s_sub (v 0) (j_bin op_mulX s_mul j_int (v 1))))
    (st_cons (st_set (i := 3) sc_law_date.nd rfl (by first | exact Or.inl rfl | exact Or.inr rfl) (j_fn0 (ok_law_lengths b T) (fun _ _ h => fnF_len h) (hr.mono (by decide)) (fun σ => passAt tk σ) (by rfl) T.h_law_lengths.mg T.h_law_lengths.fn.kp T.b_law_lengths .nil (fun _ _ => .nil)))
    (st_cons (st_for hp (i_rng (by rfl) T.n_range (l_cons j_int l_nil)) (g_name sc_law_date.nd rfl (by first | exact Or.inl rfl | exact Or.inr rfl)) (st_cons (st_if (b_cmp op_lt s_lt (v 2) (j_ix (v 3) (v 4)) (nomark _)) (st_one (st_ret (j_tup (l_cons (v 1) (l_cons (j_bin op_addX s_add (v 4) j_int) (l_cons (j_bin op_addX s_add (v 2) j_int) l_nil)))))) st_nil)
    (st_one (st_set (i := 2) sc_law_date.nd rfl (by first | exact Or.inl rfl | exact Or.inr rfl) (j_bin op_sub s_sub (v 2) (j_ix (v 3) (v 4)))))))
    (st_one (st_ret j_non))))))
theorem ok_law_number (b : B) (T : Txt g) : Ok b g 4 T.a_law_number T.d_law_number ["_law_count", "_law_day_here"] F_law_number := ok_fn T.h_law_number.fn sc_law_number fun cdv A outer s H E hr tk hp => by
  have hu : (A.deeper (envOfC "_law_number" (defScope s_law_number) s.heap.objs.size T.a_law_number cdv)).units + 66 < cLine := by have := hr.un; omega
  exact (st_cons (st_if (b_cmp (op_eqX hu) s_eq (v 0) j_str (nomark _)) (st_one (st_ret (j_fn (ok_law_lowest b T) (fun _ _ h => fnF_len h) (hr.mono (by decide)) (fun σ => passAt tk σ) (by rfl) T.h_law_lowest.mg T.h_law_lowest.fn.kp T.b_law_lowest .nil (fun _ _ => .nil) (l_cons (v 1) (l_cons j_int l_nil))))) st_nil)
    (st_cons (st_asg (g_tup (g_cons (g_name sc_law_number.nd rfl (by first | exact Or.inl rfl | exact Or.inr rfl)) (g_cons (g_name sc_law_number.nd rfl (by first | exact Or.inl rfl | exact Or.inr rfl)) (g_cons (g_name sc_law_number.nd rfl (by first | exact Or.inl rfl | exact Or.inr rfl)) g_nil)))) (j_fn (ok_law_date b T) (fun _ _ h => fnF_len h) (hr.mono (by decide)) (fun σ => passAt tk σ) (by rfl) T.h_law_date.mg T.h_law_date.fn.kp T.b_law_date .nil (fun _ _ => .nil) (l_cons (v 1) l_nil)))
    (st_cons (st_if (b_cmp (op_eqX hu) s_eq (v 0) j_str (nomark _)) (st_one (st_ret (j_fn (ok_law_lowest b T) (fun _ _ h => fnF_len h) (hr.mono (by decide)) (fun σ => passAt tk σ) (by rfl) T.h_law_lowest.mg T.h_law_lowest.fn.kp T.b_law_lowest .nil (fun _ _ => .nil) (l_cons (j_bin op_addX s_add (j_bin op_addX s_add (j_bin op_mulX s_mul j_int (v 2)) (j_bin op_mulX s_mul j_int (v 3))) (j_callB (call_min2 rfl) s_min2 (by rfl) T.n_min (by decide +kernel) (l_cons (v 4) (l_cons j_int l_nil)))) (l_cons j_int l_nil))))) st_nil)
    (st_cons (st_set (i := 5) sc_law_number.nd rfl (by first | exact Or.inl rfl | exact Or.inr rfl) (j_ix (j_fn0 (ok_law_lengths b T) (fun _ _ h => fnF_len h) (hr.mono (by decide)) (fun σ => passAt tk σ) (by rfl) T.h_law_lengths.mg T.h_law_lengths.fn.kp T.b_law_lengths .nil (fun _ _ => .nil)) (j_bin op_sub s_sub (v 3) j_int)))
    (st_one (st_ret (j_fn (ok_law_plus b T) (fun _ _ h => fnF_len h) (hr.mono (by decide)) (fun σ => passAt tk σ) (by rfl) T.h_law_plus.mg T.h_law_plus.fn.kp T.b_law_plus .nil (fun _ _ => .nil) (l_cons (j_fn (ok_law_lowest b T) (fun _ _ h => fnF_len h) (hr.mono (by decide)) (fun σ => passAt tk σ) (by rfl) T.h_law_lowest.mg T.h_law_lowest.fn.kp T.b_law_lowest .nil (fun _ _ => .nil) (l_cons (j_bin op_addX s_add (j_bin op_mulX s_mul j_int (v 2)) (v 3)) (l_cons j_int l_nil))) (l_cons (j_fn (ok_law_lowest b T) (fun _ _ h => fnF_len h) (hr.mono (by decide)) (fun σ => passAt tk σ) (by rfl) T.h_law_lowest.mg T.h_law_lowest.fn.kp T.b_law_lowest .nil (fun _ _ => .nil) (l_cons (j_bin op_sub s_sub (v 4) j_int) (l_cons (j_bin op_mulX s_mul j_int (v 5)) l_nil))) l_nil)))))))))
theorem ok_law_part (b : B) (T : Txt g) : Ok b g 5 T.a_law_part T.d_law_part ["_law_count", "_law_start", "_law_end"] F_law_part := ok_fn T.h_law_part.fn sc_law_part fun cdv A outer s H E hr tk hp => by
  have hu : (A.deeper (envOfC "_law_part" (defScope s_law_part) s.heap.objs.size T.a_law_part cdv)).units + 66 < cLine := by have := hr.un; omega
  exact (st_one (st_ret (j_fn (ok_law_minus b T) (fun _ _ h => fnF_len h) (hr.mono (by decide)) (fun σ => passAt tk σ) (by rfl) T.h_law_minus.mg T.h_law_minus.fn.kp T.b_law_minus .nil (fun _ _ => .nil) (l_cons (j_fn (ok_law_number b T) (fun _ _ h => fnF_len h) (hr.mono (by decide)) (fun σ => passAt tk σ) (by rfl) T.h_law_number.mg T.h_law_number.fn.kp T.b_law_number .nil (fun _ _ => .nil) (l_cons (v 0) (l_cons (v 2) l_nil))) (l_cons (j_fn (ok_law_number b T) (fun _ _ h => fnF_len h) (hr.mono (by decide)) (fun σ => passAt tk σ) (by rfl) T.h_law_number.mg T.h_law_number.fn.kp T.b_law_number .nil (fun _ _ => .nil) (l_cons (v 0) (l_cons (v 1) l_nil))) l_nil)))))
theorem disp_ok (b : B) (T : Txt g) : ∀ j a, g.fa j = some a → ∃ fd ps, Ok b g 7 a fd ps (disp j) ∧ (∀ xs C, xs.length ≠ ps.length → disp j xs C = .bad) ∧ PySem.W.keepIn g.K (.ref a) = true ∧ Binds g.K fd ps [] := fun j a h => by
  rcases T.fa_ok j a h with ⟨rfl, rfl⟩
  · exact ⟨_, _, FnOk.mono (ok_interests b T) (by decide), fun _ _ h => fnF_len h, T.h_interests.fn.kp, T.b_interests⟩
theorem ok_law_refuses (b : B) (T : Txt g) : Ok b g 8 T.a_law_refuses T.d_law_refuses ["_law_call", "_law_arguments", "_law_wanted"] F_law_refuses := ok_fn T.h_law_refuses.fn sc_law_refuses fun cdv A outer s H E hr tk hp => by
  have hu : (A.deeper (envOfC "_law_refuses" (defScope s_law_refuses) s.heap.objs.size T.a_law_refuses cdv)).units + 66 < cLine := by have := hr.un; omega
  exact (st_cons (st_try (sub := sub) T.sub_ok tk rfl rfl (fun W pn xe tk hp => (st_one (st_if (b_cmp (op_eqX hu) s_eq (j_callB c_len s_len (by rfl) T.n_len (by decide +kernel) (l_cons (v 1) l_nil)) j_int (nomark _)) (st_one (st_expr (j_fnL (disp := disp) 0 (disp_ok b T) (hr.mono (by decide)) (fun σ => passAt tk σ) rfl (by first | exact Or.inl rfl | exact Or.inr (Or.inl rfl)) (l_cons (j_ix (v 1) j_int) l_nil)))) (st_one (st_if (b_cmp (op_eqX hu) s_eq (j_callB c_len s_len (by rfl) T.n_len (by decide +kernel) (l_cons (v 1) l_nil)) j_int (nomark _)) (st_one (st_expr (j_fnL (disp := disp) 0 (disp_ok b T) (hr.mono (by decide)) (fun σ => passAt tk σ) rfl (by first | exact Or.inl rfl | exact Or.inr (Or.inl rfl)) (l_cons (j_ix (v 1) j_int) (l_cons (j_ix (v 1) j_int) l_nil))))) (st_one (st_if (b_cmp (op_eqX hu) s_eq (j_callB c_len s_len (by rfl) T.n_len (by decide +kernel) (l_cons (v 1) l_nil)) j_int (nomark _)) (st_one (st_expr (j_fnL (disp := disp) 0 (disp_ok b T) (hr.mono (by decide)) (fun σ => passAt tk σ) rfl (by first | exact Or.inl rfl | exact Or.inr (Or.inl rfl)) (l_cons (j_ix (v 1) j_int) (l_cons (j_ix (v 1) j_int) (l_cons (j_ix (v 1) j_int) l_nil)))))) (st_one (st_expr (j_fnL (disp := disp) 0 (disp_ok b T) (hr.mono (by decide)) (fun σ => passAt tk σ) rfl (by first | exact Or.inl rfl | exact Or.inr (Or.inl rfl)) (l_cons (j_ix (v 1) j_int) (l_cons (j_ix (v 1) j_int) (l_cons (j_ix (v 1) j_int) (l_cons (j_ix (v 1) j_int) l_nil)))))))))))))) (HdJ.cons (by rfl) T.g_InvalidDay (by decide) (fun _ _ _ _ _ _ _ => (st_one (st_ret (j_cmp (op_eqX hu) s_eq (v 2) j_str (nomark _))))) (HdJ.cons (by rfl) T.g_InvalidWord (by decide) (fun _ _ _ _ _ _ _ => (st_one (st_ret (j_cmp (op_eqX hu) s_eq (v 2) j_str (nomark _))))) (HdJ.cons (by rfl) T.g_ConsolError (by decide) (fun _ _ _ _ _ _ _ => (st_one (st_ret j_bl))) HdJ.nil))))
    (st_one (st_ret j_bl)))
theorem ok_law_fraction (b : B) (T : Txt g) : Ok b g 3 T.a_law_fraction T.d_law_fraction ["_law_state_here"] F_law_fraction := ok_fn T.h_law_fraction.fn sc_law_fraction fun cdv A outer s H E hr tk hp => by
  have hu : (A.deeper (envOfC "_law_fraction" (defScope s_law_fraction) s.heap.objs.size T.a_law_fraction cdv)).units + 66 < cLine := by have := hr.un; omega
  exact (st_one (st_ret (j_fn (ok_law_lowest b T) (fun _ _ h => fnF_len h) (hr.mono (by decide)) (fun σ => passAt tk σ) (by rfl) T.h_law_lowest.mg T.h_law_lowest.fn.kp T.b_law_lowest .nil (fun _ _ => .nil) (l_cons (j_bin op_sub s_sub (j_fn (ok_law_draw b T) (fun _ _ h => fnF_len h) (hr.mono (by decide)) (fun σ => passAt tk σ) (by rfl) T.h_law_draw.mg T.h_law_draw.fn.kp T.b_law_draw .nil (fun _ _ => .nil) (l_cons (v 0) (l_cons j_int l_nil))) j_int) (l_cons (j_bin op_addX s_add j_int (j_fn (ok_law_draw b T) (fun _ _ h => fnF_len h) (hr.mono (by decide)) (fun σ => passAt tk σ) (by rfl) T.h_law_draw.mg T.h_law_draw.fn.kp T.b_law_draw .nil (fun _ _ => .nil) (l_cons (v 0) (l_cons j_int l_nil)))) l_nil)))))
theorem ok_law (b : B) (T : Txt g) : Ok b g 9 T.a_law T.d_law ["_law_script"] F_law := ok_fn T.h_law.fn sc_law fun cdv A outer s H E hr tk hp => by
  have hu : (A.deeper (envOfC "law" (defScope s_law) s.heap.objs.size T.a_law cdv)).units + 66 < cLine := by have := hr.un; omega
  exact (st_cons (st_set (i := 1) sc_law.nd rfl (by first | exact Or.inl rfl | exact Or.inr rfl) (j_fn (ok_law_state b T) (fun _ _ h => fnF_len h) (hr.mono (by decide)) (fun σ => passAt tk σ) (by rfl) T.h_law_state.mg T.h_law_state.fn.kp T.b_law_state .nil (fun _ _ => .nil) (l_cons (v 0) l_nil)))
    (st_cons (st_set (i := 2) sc_law.nd rfl (by first | exact Or.inl rfl | exact Or.inr rfl) (j_fn (ok_law_draw b T) (fun _ _ h => fnF_len h) (hr.mono (by decide)) (fun σ => passAt tk σ) (by rfl) T.h_law_draw.mg T.h_law_draw.fn.kp T.b_law_draw .nil (fun _ _ => .nil) (l_cons (v 1) (l_cons j_int l_nil))))
    (st_cons (st_set (i := 3) sc_law.nd rfl (by first | exact Or.inl rfl | exact Or.inr rfl) (j_bin op_addX s_add (j_bin op_addX s_add (v 2) j_int) (j_fn (ok_law_draw b T) (fun _ _ h => fnF_len h) (hr.mono (by decide)) (fun σ => passAt tk σ) (by rfl) T.h_law_draw.mg T.h_law_draw.fn.kp T.b_law_draw .nil (fun _ _ => .nil) (l_cons (v 1) (l_cons j_int l_nil)))))
    (st_cons (st_set (i := 4) sc_law.nd rfl (by first | exact Or.inl rfl | exact Or.inr rfl) (j_ix (j_lst (l_cons j_str (l_cons j_str (l_cons j_str l_nil)))) (j_fn (ok_law_draw b T) (fun _ _ h => fnF_len h) (hr.mono (by decide)) (fun σ => passAt tk σ) (by rfl) T.h_law_draw.mg T.h_law_draw.fn.kp T.b_law_draw .nil (fun _ _ => .nil) (l_cons (v 1) (l_cons j_int l_nil)))))
    (st_cons (st_set (i := 5) sc_law.nd rfl (by first | exact Or.inl rfl | exact Or.inr rfl) (j_fn (ok_schedule b T) (fun _ _ h => fnF_len h) (hr.mono (by decide)) (fun σ => passAt tk σ) (by rfl) T.h_schedule.mg T.h_schedule.fn.kp T.b_schedule .nil (fun _ _ => .nil) (l_cons (v 2) (l_cons (v 3) (l_cons (j_bin op_addX s_add j_int (j_fn (ok_law_draw b T) (fun _ _ h => fnF_len h) (hr.mono (by decide)) (fun σ => passAt tk σ) (by rfl) T.h_law_draw.mg T.h_law_draw.fn.kp T.b_law_draw .nil (fun _ _ => .nil) (l_cons (v 1) (l_cons j_int l_nil)))) l_nil)))))
    (st_cons (st_set (i := 6) sc_law.nd rfl (by first | exact Or.inl rfl | exact Or.inr rfl) (j_fn (ok_law_fraction b T) (fun _ _ h => fnF_len h) (hr.mono (by decide)) (fun σ => passAt tk σ) (by rfl) T.h_law_fraction.mg T.h_law_fraction.fn.kp T.b_law_fraction .nil (fun _ _ => .nil) (l_cons (v 1) l_nil)))
    (st_cons (st_set (i := 7) sc_law.nd rfl (by first | exact Or.inl rfl | exact Or.inr rfl) (j_fn (ok_law_fraction b T) (fun _ _ h => fnF_len h) (hr.mono (by decide)) (fun σ => passAt tk σ) (by rfl) T.h_law_fraction.mg T.h_law_fraction.fn.kp T.b_law_fraction .nil (fun _ _ => .nil) (l_cons (v 1) l_nil)))
    (st_cons (st_set (i := 8) sc_law.nd rfl (by first | exact Or.inl rfl | exact Or.inr rfl) (j_fn (ok_law_times b T) (fun _ _ h => fnF_len h) (hr.mono (by decide)) (fun σ => passAt tk σ) (by rfl) T.h_law_times.mg T.h_law_times.fn.kp T.b_law_times .nil (fun _ _ => .nil) (l_cons (v 6) (l_cons (v 7) l_nil))))
    (st_cons (st_set (i := 9) sc_law.nd rfl (by first | exact Or.inl rfl | exact Or.inr rfl) (j_fn (ok_interest b T) (fun _ _ h => fnF_len h) (hr.mono (by decide)) (fun σ => passAt tk σ) (by rfl) T.h_interest.mg T.h_interest.fn.kp T.b_interest .nil (fun _ _ => .nil) (l_cons (v 6) (l_cons (v 7) (l_cons (v 4) (l_cons (v 2) (l_cons (v 3) l_nil)))))))
    (st_cons (st_if (b_cmp (op_neX hu) s_ne (v 9) (j_fn (ok_law_times b T) (fun _ _ h => fnF_len h) (hr.mono (by decide)) (fun σ => passAt tk σ) (by rfl) T.h_law_times.mg T.h_law_times.fn.kp T.b_law_times .nil (fun _ _ => .nil) (l_cons (v 8) (l_cons (j_fn (ok_law_part b T) (fun _ _ h => fnF_len h) (hr.mono (by decide)) (fun σ => passAt tk σ) (by rfl) T.h_law_part.mg T.h_law_part.fn.kp T.b_law_part .nil (fun _ _ => .nil) (l_cons (v 4) (l_cons (v 2) (l_cons (v 3) l_nil)))) l_nil))) (nomark _)) (st_one (st_ret j_bl)) st_nil)
    (st_cons (st_set (i := 10) sc_law.nd rfl (by first | exact Or.inl rfl | exact Or.inr rfl) (j_callTy c_list s_list (by rfl) T.n_list (by decide +kernel) (l_cons (v 5) l_nil)))
    (st_cons (st_set (i := 11) sc_law.nd rfl (by first | exact Or.inl rfl | exact Or.inr rfl) (j_fn (ok_interests b T) (fun _ _ h => fnF_len h) (hr.mono (by decide)) (fun σ => passAt tk σ) (by rfl) T.h_interests.mg T.h_interests.fn.kp T.b_interests .nil (fun _ _ => .nil) (l_cons (v 6) (l_cons (v 7) (l_cons (v 4) (l_cons (v 10) l_nil))))))
    (st_cons (st_setLc [("_law_at", 15)] tk sc_law.nd rfl rfl (sw_true rfl rfl rfl (by decide +kernel)) (i_rng (by rfl) T.n_range (l_cons (j_bin op_sub s_sub (j_callB c_len s_len (by rfl) T.n_len (by decide +kernel) (l_cons (v 5) l_nil)) j_int) l_nil)) (blkOk_by (N := N_law) (sc := defScope s_law) (by decide +kernel)) (own_name (by decide)) (fun _ _ _ _ _ _ => (g_name sc_law.nd rfl (by first | exact Or.inl rfl | exact Or.inr rfl))) (fun _ _ _ _ _ _ _ hx => ts_nil) (fun _ _ _ _ _ _ _ hx => (j_fn (ok_law_times b T) (fun _ _ h => fnF_len h) (hr.mono (by decide)) hx (by rfl) T.h_law_times.mg T.h_law_times.fn.kp T.b_law_times .nil (fun _ _ => .nil) (l_cons (v 8) (l_cons (j_fn (ok_law_part b T) (fun _ _ h => fnF_len h) (hr.mono (by decide)) hx (by rfl) T.h_law_part.mg T.h_law_part.fn.kp T.b_law_part .nil (fun _ _ => .nil) (l_cons (v 4) (l_cons (j_ix (v 5) (v 15)) (l_cons (j_ix (v 5) (j_bin op_addX s_add (v 15) j_int)) l_nil)))) l_nil)))))
    (st_cons (st_if (b_wh (w_or (b_not (b_tru (j_isi "list" (by decide) (by rfl) T.n_isinstance (by rfl) T.n_list (by decide +kernel) (v 11)))) (w_or (b_cmp (op_neX hu) s_ne (v 11) (v 12) (nomark _)) (w_or1 (b_cmp (op_neX hu) s_ne (v 10) (v 5) (nomark _)))))) (st_one (st_ret j_bl)) st_nil)
    (st_cons (st_set (i := 13) sc_law.nd rfl (by first | exact Or.inl rfl | exact Or.inr rfl) (j_tup (l_cons j_int (l_cons j_int l_nil))))
    (st_cons (st_for hp (i_seq (v 11)) (g_name sc_law.nd rfl (by first | exact Or.inl rfl | exact Or.inr rfl)) (st_one (st_set (i := 13) sc_law.nd rfl (by first | exact Or.inl rfl | exact Or.inr rfl) (j_fn (ok_law_plus b T) (fun _ _ h => fnF_len h) (hr.mono (by decide)) (fun σ => passAt tk σ) (by rfl) T.h_law_plus.mg T.h_law_plus.fn.kp T.b_law_plus .nil (fun _ _ => .nil) (l_cons (v 13) (l_cons (v 14) l_nil))))))
    (st_cons (st_if (b_wh (w_or (b_cmp (op_neX hu) s_ne (v 13) (v 9) (nomark _)) (w_or (b_cmp (op_neX hu) s_ne (j_fn (ok_interests b T) (fun _ _ h => fnF_len h) (hr.mono (by decide)) (fun σ => passAt tk σ) (by rfl) T.h_interests.mg T.h_interests.fn.kp T.b_interests .nil (fun _ _ => .nil) (l_cons (v 6) (l_cons (v 7) (l_cons (v 4) (l_cons (j_lst l_nil) l_nil))))) (j_lst l_nil) (nomark _)) (w_or1 (b_cmp (op_neX hu) s_ne (j_fn (ok_interests b T) (fun _ _ h => fnF_len h) (hr.mono (by decide)) (fun σ => passAt tk σ) (by rfl) T.h_interests.mg T.h_interests.fn.kp T.b_interests .nil (fun _ _ => .nil) (l_cons (v 6) (l_cons (v 7) (l_cons (v 4) (l_cons (j_lst (l_cons j_int l_nil)) l_nil))))) (j_lst l_nil) (nomark _)))))) (st_one (st_ret j_bl)) st_nil)
    (st_cons (st_if (b_not (b_tru (j_fn (ok_law_refuses b T) (fun _ _ h => fnF_len h) (hr.mono (by decide)) (fun σ => passAt tk σ) (by rfl) T.h_law_refuses.mg T.h_law_refuses.fn.kp T.b_law_refuses .nil (fun _ _ => .nil) (l_cons (j_glob rfl T.v_interests) (l_cons (j_lst (l_cons (v 6) (l_cons (v 7) (l_cons j_str (l_cons (v 5) l_nil))))) (l_cons j_str l_nil)))))) (st_one (st_ret j_bl)) st_nil)
    (st_one (st_ret (j_fn (ok_law_refuses b T) (fun _ _ h => fnF_len h) (hr.mono (by decide)) (fun σ => passAt tk σ) (by rfl) T.h_law_refuses.mg T.h_law_refuses.fn.kp T.b_law_refuses .nil (fun _ _ => .nil) (l_cons (j_glob rfl T.v_interests) (l_cons (j_lst (l_cons (v 6) (l_cons (v 7) (l_cons (v 4) (l_cons (j_bin op_addX s_add (v 5) (j_lst (l_cons (j_bin op_sub s_sub (v 2) j_int) l_nil))) l_nil))))) (l_cons j_str l_nil))))))))))))))))))))))))
end
end Lw
namespace Mp
open PySem PySem.Spec PyProof.Rows L2
/-- a bound of a range -/
structure InR (j : Int) : Prop where
  lo : -(2 ^ 62) ≤ j
  hi : j < 2 ^ 62
noncomputable instance (j : Int) : Decidable (InR j) := Classical.propDecidable _
theorem inR_of {j : Int} (h : -(2 ^ 40) ≤ j) (h2 : j < 2 ^ 40) : InR j := ⟨by omega, by omega⟩
/-! # running ours: one equation a construct -/
section
variable {α β : Type} {C : Hs} {s : Sl}
@[simp] theorem bind_val {d : α} {k : α → Hs → R β} : (R.val d C).bind k = k d C := rfl
@[simp] theorem bind_exc {x : X} {k : α → Hs → R β} : (R.exc x C : R α).bind k = .exc x C := rfl
@[simp] theorem bind_bad {k : α → Hs → R β} : (R.bad : R α).bind k = .bad := rfl
@[simp] theorem stm_val {d : α} {k : α → Hs → RS} : (R.val d C).stm s k = k d C := rfl
@[simp] theorem stm_exc {x : X} {k : α → Hs → RS} : (R.exc x C : R α).stm s k = .exc x s C := rfl
@[simp] theorem seq_nx {k : Sl → Hs → RS} : (RS.nx s C).seq k = k s C := rfl
@[simp] theorem seq_rt {d : D} {k : Sl → Hs → RS} : (RS.rt d C).seq k = .rt d C := rfl
@[simp] theorem seq_exc {x : X} {k : Sl → Hs → RS} : (RS.exc x s C).seq k = .exc x s C := rfl
@[simp] theorem seq_bk {k : Sl → Hs → RS} : (RS.bk s C).seq k = .bk s C := rfl
@[simp] theorem seq_ct {k : Sl → Hs → RS} : (RS.ct s C).seq k = .ct s C := rfl
@[simp] theorem sSeq_ap {a b : MS} : sSeq a b s C = (a s C).seq b := rfl
@[simp] theorem sSkip_ap : sSkip s C = .nx s C := rfl
@[simp] theorem sIf_ap {t : MB} {a b : MS} : sIf t a b s C = (t s C).stm s fun c C1 => if c = true then a s C1 else b s C1 := rfl
@[simp] theorem sRet_ap {m : ME} : sRet m s C = (m s C).stm s fun d C1 => .rt d C1 := rfl
@[simp] theorem sRetN_ap : sRetN s C = .rt .non C := rfl
@[simp] theorem sDrop_ap {m : ME} : sDrop m s C = (m s C).stm s fun _ C1 => .nx s C1 := rfl
@[simp] theorem sBreak_ap : sBreak s C = .bk s C := rfl
@[simp] theorem sCont_ap : sCont s C = .ct s C := rfl
@[simp] theorem sAsg_ap {m : ME} {t : MG} : sAsg m t s C = (m s C).stm s fun d C1 => match t d s C1 with | .val s' C2 => .nx s' C2 | _ => .bad := rfl
@[simp] theorem tgN_ap {i : Nat} {d : D} : tgN i d s C = .val (s.set i (some d)) C := rfl
@[simp] theorem tgT_ap {ts : List MG} {ds : List D} : tgT ts (.tup ds) s C = if ds.length = ts.length then tgAll ts ds s C else .bad := rfl
@[simp] theorem tgAll_nil : tgAll [] [] s C = .val s C := rfl
@[simp] theorem tgAll_cons {t : MG} {ts : List MG} {d : D} {ds : List D} : tgAll (t :: ts) (d :: ds) s C = (t d s C).bind fun s' C' => tgAll ts ds s' C' := rfl
@[simp] theorem tgS_ap {f : FSet} {eo ei : ME} {d : D} : tgS f eo ei d s C = match eo s C with
  | .val o C1 => match ei s C1 with
    | .val i C2 => match f o i d C2 with
      | .val _ C3 => .val s C3
      | _ => .bad
    | _ => .bad
  | _ => .bad := rfl
@[simp] theorem sPar_ap {i j : Nat} {l : ML} : sPar i j l s C = (l s C).stm s fun ds C1 => match ds with | [d, e] => .nx ((s.set i (some d)).set j (some e)) C1 | _ => .bad := rfl
@[simp] theorem sAug_ap {i : Nat} {f : D → D → Hs → R D} {m : ME} : sAug i f m s C = match s[i]? with
  | some (some x) => (m s C).stm s fun y C1 => (f x y C1).stm s fun z C2 => .nx (s.set i (some z)) C2
  | _ => .bad := rfl
@[simp] theorem sRaise_ap {c : Str} : sRaise c s C = .exc ⟨c, []⟩ s C := rfl
@[simp] theorem sRaiseA_ap {c : Str} {fs : List Str} {l : ML} : sRaiseA c fs l s C = (l s C).stm s fun ds C1 => if ds.length = fs.length ∧ fs.length ≤ 100 then .exc ⟨c, (fs.zip ds).reverse⟩ s C1 else .bad := rfl
@[simp] theorem sTry_ap {sub : Str → Str → Option Bool} {m : MS} {hs : List (Str × MS)} : sTry sub m hs s C = match m s C with | .exc x s' C' => handle sub hs x s' C' | r => r := rfl
@[simp] theorem noX_ap {m : MS} : noX m s C = match m s C with | .exc _ _ _ => .bad | r => r := rfl
@[simp] theorem handle_nil {sub : Str → Str → Option Bool} {x : X} : handle sub [] x s C = .exc x s C := rfl
@[simp] theorem handle_cons {sub : Str → Str → Option Bool} {x : X} {c : Str} {m : MS} {r : List (Str × MS)} : handle sub ((c, m) :: r) x s C = match sub x.cls c with
    | some true => m s C
    | some false => handle sub r x s C
    | none => .bad := rfl
@[simp] theorem sWhile_ap {c : MB} {b : MS} : sWhile c b s C = loopW c b fuelW s C := rfl
@[simp] theorem sFor_ap {m : MI} {t : MG} {b : MS} : sFor m t b s C = (m s C).stm s fun it C1 => loopF it t b it.fuel 0 s C1 := rfl
@[simp] theorem eVar_ap {i : Nat} : eVar i s C = match s[i]? with | some (some d) => .val d C | _ => .bad := rfl
@[simp] theorem eC_ap {d : D} : eC d s C = .val d C := rfl
@[simp] theorem eBin_ap {f : D → D → Hs → R D} {a b : ME} : eBin f a b s C = (a s C).bind fun x C1 => (b s C1).bind fun y C2 => f x y C2 := rfl
@[simp] theorem eUn_ap {f : D → Hs → R D} {a : ME} : eUn f a s C = (a s C).bind f := rfl
@[simp] theorem eChain_ap {f f' : D → D → Hs → R D} {a b c : ME} : eChain f f' a b c s C = (a s C).bind fun x C1 => (b s C1).bind fun y C2 => (f x y C2).bind fun z C3 => match z with
  | .bl true => (c s C3).bind fun w C4 => f' y w C4
  | .bl false => .val (.bl false) C3
  | _ => .bad := rfl
@[simp] theorem toB_ap {m : ME} : toB m s C = (m s C).bind fun d C => match d with | .bl b => .val b C | _ => .bad := rfl
@[simp] theorem bTru_ap {m : ME} : bTru m s C = (m s C).bind fun d C1 => match truth C1 d with | some b => .val b C1 | none => .bad := rfl
@[simp] theorem bAnd_ap {a b : MB} : bAnd a b s C = (a s C).bind fun c C1 => if c = true then b s C1 else .val false C1 := rfl
@[simp] theorem bOr_ap {a b : MB} : bOr a b s C = (a s C).bind fun c C1 => if c = true then .val true C1 else b s C1 := rfl
@[simp] theorem bNot_ap {a : MB} : bNot a s C = (a s C).bind fun c C1 => .val (!c) C1 := rfl
@[simp] theorem bYes_ap : bYes s C = .val true C := rfl
@[simp] theorem eIf_ap {t : MB} {a b : ME} : eIf t a b s C = (t s C).bind fun c C1 => if c = true then a s C1 else b s C1 := rfl
@[simp] theorem eAnd_ap {a b : ME} : eAnd a b s C = (a s C).bind fun c C1 => match c with | .bl true => b s C1 | .bl false => .val (.bl false) C1 | _ => .bad := rfl
@[simp] theorem eOr_ap {a b : ME} : eOr a b s C = (a s C).bind fun c C1 => match c with | .bl true => .val (.bl true) C1 | .bl false => b s C1 | _ => .bad := rfl
@[simp] theorem eNot_ap {a : ME} : eNot a s C = (a s C).bind fun c C1 => match c with | .bl b => .val (.bl !b) C1 | _ => .bad := rfl
@[simp] theorem lNil_ap : lNil s C = .val [] C := rfl
@[simp] theorem lCons_ap {a : ME} {r : ML} : lCons a r s C = (a s C).bind fun d C1 => (r s C1).bind fun ds C2 => .val (d :: ds) C2 := rfl
@[simp] theorem eTup_ap {l : ML} : eTup l s C = (l s C).bind fun ds C1 => if ds.length ≤ sizeLine then .val (.tup ds) C1 else .bad := rfl
@[simp] theorem eLst_ap {l : ML} : eLst l s C = (l s C).bind fun ds C1 => if ds.length ≤ sizeLine then .val (.ref C1.length) (C1 ++ [.lst ds]) else .bad := rfl
@[simp] theorem eCall_ap {f : List D → Hs → R D} {l : ML} : eCall f l s C = (l s C).bind f := rfl
@[simp] theorem eFn_ap {F : List D → Hs → R D} {dd : List D} {l : ML} : eFn F dd l s C = (l s C).bind fun xs C1 => F (xs ++ dd) C1 := rfl
@[simp] theorem eFn0_ap {F : List D → Hs → R D} {dd : List D} : eFn0 F dd s C = F dd C := rfl
@[simp] theorem eMeth_ap {T : String} {f : D → List D → Hs → R D} {m : ME} {l : ML} : eMeth T f m l s C = (m s C).bind fun x C1 => if isRecv T C1 x = true then (l s C1).bind fun xs C2 => f x xs C2 else .bad := rfl
@[simp] theorem eMeth0_ap {T : String} {f : D → List D → Hs → R D} {m : ME} : eMeth0 T f m s C = (m s C).bind fun x C1 => if isRecv T C1 x = true then f x [] C1 else .bad := rfl
@[simp] theorem eIsi_ap {T : String} {m : ME} : eIsi T m s C = (m s C).bind (fIsi T) := rfl
@[simp] theorem eSlice_ap {e : ME} {lo hi : MO} : eSlice e lo hi s C = (e s C).bind fun x C1 => (lo s C1).bind fun l C2 => (hi s C2).bind fun h C3 => oSlice x l h C3 := rfl
@[simp] theorem oNone_ap : oNone s C = .val none C := rfl
@[simp] theorem oSome_ap {m : ME} : oSome m s C = (m s C).bind fun d C1 => match d with | .int i => .val (some i) C1 | _ => .bad := rfl
@[simp] theorem iSeq_ap {m : ME} : iSeq m s C = (m s C).bind fun d C1 => match itemsOf C1 d with
  | some ds => .val ⟨ds.length + 1, nxSeq d⟩ C1
  | none => .bad := rfl
@[simp] theorem iRng_ap {l : ML} : iRng l s C = (l s C).bind fun ds C1 => match ds with
  | [.int j] => if InR j then .val ⟨j.toNat + 1, nxRng 0 j.toNat⟩ C1 else .bad
  | _ => .bad := by
  have e : ∀ {α : Type} (j : Int) (a b : α), (if -(2 ^ 62) ≤ j ∧ j < 2 ^ 62 then a else b) = if InR j then a else b := fun j a b => by
    by_cases h : InR j
    · rw [if_pos h, if_pos ⟨h.lo, h.hi⟩]
    · rw [if_neg h, if_neg (fun h' => h ⟨h'.1, h'.2⟩)]
  simp only [iRng, e]
  try rfl
@[simp] theorem eLc_ap {m : MI} {t : MG} {bt : MB} {me : ME} {vs : List Nat} : eLc m t bt me vs s C = (m s C).bind fun it C1 => loopC it t bt me C1.length it.fuel 0 (wipeD s vs) (C1 ++ [.lst []]) := rfl
@[simp] theorem wipeD_nil : wipeD s [] = s := rfl
@[simp] theorem wipeD_cons {v : Nat} {vs : List Nat} : wipeD s (v :: vs) = (wipeD s vs).set v none := rfl
/-! ## operators on what is known -/
@[simp] theorem oAdd_int {i j : Int} : oAdd (.int i) (.int j) C = .val (.int (i + j)) C := rfl
@[simp] theorem oAddI_int {i j : Int} : oAddI (.int i) (.int j) C = .val (.int (i + j)) C := rfl
@[simp] theorem oSub_int {i j : Int} : oSub (.int i) (.int j) C = .val (.int (i - j)) C := rfl
@[simp] theorem oMul_int {i j : Int} : oMul (.int i) (.int j) C = if CMulX i j then .val (.int (i * j)) C else .bad := rfl
@[simp] theorem oFdiv_int {i j : Int} : oFdiv (.int i) (.int j) C = if CDivX i j then .val (.int (i.fdiv j)) C else .bad := rfl
@[simp] theorem oMod_int {i j : Int} : oMod (.int i) (.int j) C = if j ≠ 0 then .val (.int (i.fmod j)) C else .bad := rfl
@[simp] theorem oPow_int {i j : Int} : oPow (.int i) (.int j) C = if CPow i j then .val (.int (i ^ j.toNat)) C else .bad := rfl
@[simp] theorem oNeg_int {i : Int} : oNeg (.int i) C = .val (.int (-i)) C := rfl
@[simp] theorem oLt_int {i j : Int} : oLt (.int i) (.int j) C = .val (.bl (decide (i < j))) C := rfl
@[simp] theorem oLe_int {i j : Int} : oLe (.int i) (.int j) C = .val (.bl (decide (i ≤ j))) C := rfl
@[simp] theorem oGt_int {i j : Int} : oGt (.int i) (.int j) C = .val (.bl (decide (j < i))) C := rfl
@[simp] theorem oGe_int {i j : Int} : oGe (.int i) (.int j) C = .val (.bl (decide (j ≤ i))) C := rfl
@[simp] theorem toPy_int {n : Nat} {i : Int} : toPy n C (.int i) = some (.int i) := by cases n <;> rfl
@[simp] theorem toPy_str {n : Nat} {z : Str} : toPy n C (.str z) = some (.str z) := by cases n <;> rfl
@[simp] theorem toPy_bl {n : Nat} {b : Bool} : toPy n C (.bl b) = some (.bool b) := by cases n <;> rfl
@[simp] theorem toPy_non {n : Nat} : toPy n C .non = some .none := by cases n <;> rfl
theorem toPy_tup {n : Nat} {ds : List D} : toPy (n + 1) C (.tup ds) = (allSome (toPy n C) ds).map .tuple := rfl
theorem toPy_ref {n : Nat} {i : Nat} {ds : List D} (h : C[i]? = some (.lst ds)) : toPy (n + 1) C (.ref i) = (allSome (toPy n C) ds).map .list := by simp only [toPy, h]
@[simp] theorem oEq_int {i j : Int} : oEq (.int i) (.int j) C = .val (.bl (decide (i = j))) C := by simp [oEq, PyData.eqv, Bool.beq_eq_decide_eq]
@[simp] theorem oNe_int {i j : Int} : oNe (.int i) (.int j) C = .val (.bl (!decide (i = j))) C := by simp [oNe, PyData.eqv, Bool.beq_eq_decide_eq]
@[simp] theorem oEq_str {i j : Str} : oEq (.str i) (.str j) C = .val (.bl (decide (i = j))) C := by simp [oEq, PyData.eqv, Bool.beq_eq_decide_eq]
@[simp] theorem oNe_str {i j : Str} : oNe (.str i) (.str j) C = .val (.bl (!decide (i = j))) C := by simp [oNe, PyData.eqv, Bool.beq_eq_decide_eq]
@[simp] theorem oIs_non {x : D} : oIs x .non C = .val (.bl (isNon x)) C := rfl
@[simp] theorem oIsNot_non {x : D} : oIsNot x .non C = .val (.bl (!isNon x)) C := rfl
@[simp] theorem isNon_non : isNon .non = true := rfl
@[simp] theorem isNon_int {i : Int} : isNon (.int i) = false := rfl
@[simp] theorem isNon_str {z : Str} : isNon (.str z) = false := rfl
@[simp] theorem isNon_bl {b : Bool} : isNon (.bl b) = false := rfl
@[simp] theorem isNon_tup {ds : List D} : isNon (.tup ds) = false := rfl
@[simp] theorem isNon_ref {i : Nat} : isNon (.ref i) = false := rfl
@[simp] theorem items_tup {ds : List D} : itemsOf C (.tup ds) = some ds := rfl
theorem items_ref {i : Nat} {ds : List D} (h : C[i]? = some (.lst ds)) : itemsOf C (.ref i) = some ds := by simp only [itemsOf, h]
theorem items_frz {i : Nat} {ds : List D} (h : C[i]? = some (.frz ds)) : itemsOf C (.ref i) = some ds := by simp only [itemsOf, h]
@[simp] theorem oIx_tup {ds : List D} {k : Int} : oIx (.tup ds) (.int k) C = match atI ds k with | some d => .val d C | none => .bad := rfl
theorem oIx_ref {i : Nat} {ds : List D} {k : Int} (h : C[i]? = some (.lst ds)) : oIx (.ref i) (.int k) C = match atI ds k with | some d => .val d C | none => .bad := by simp only [oIx, items_ref h]; try rfl
theorem oIx_frz {i : Nat} {ds : List D} {k : Int} (h : C[i]? = some (.frz ds)) : oIx (.ref i) (.int k) C = match atI ds k with | some d => .val d C | none => .bad := by simp only [oIx, items_frz h]; try rfl
theorem atI_ofNat {α : Type} {xs : List α} {j : Nat} : L2.atI xs (j : Int) = xs[j]? := by
  unfold L2.atI ixN
  rw [if_pos (by omega)]
  by_cases h : j < xs.length
  · rw [if_pos (by omega)]; simp
  · rw [if_neg (by omega)]; simp; omega
theorem atI_pos {α : Type} {xs : List α} {k : Int} (h : 0 ≤ k) : L2.atI xs k = xs[k.toNat]? := by
  obtain ⟨j, rfl⟩ := Int.eq_ofNat_of_zero_le h
  rw [atI_ofNat]; simp
@[simp] theorem atI_zero {α : Type} {xs : List α} : L2.atI xs 0 = xs[0]? := atI_ofNat (j := 0)
@[simp] theorem atI_2 {α : Type} {xs : List α} : L2.atI xs 2 = xs[2]? := atI_ofNat (j := 2)
@[simp] theorem atI_3 {α : Type} {xs : List α} : L2.atI xs 3 = xs[3]? := atI_ofNat (j := 3)
@[simp] theorem atI_4 {α : Type} {xs : List α} : L2.atI xs 4 = xs[4]? := atI_ofNat (j := 4)
@[simp] theorem atI_5 {α : Type} {xs : List α} : L2.atI xs 5 = xs[5]? := atI_ofNat (j := 5)
@[simp] theorem atI_6 {α : Type} {xs : List α} : L2.atI xs 6 = xs[6]? := atI_ofNat (j := 6)
@[simp] theorem atI_7 {α : Type} {xs : List α} : L2.atI xs 7 = xs[7]? := atI_ofNat (j := 7)
@[simp] theorem atI_8 {α : Type} {xs : List α} : L2.atI xs 8 = xs[8]? := atI_ofNat (j := 8)
@[simp] theorem atI_9 {α : Type} {xs : List α} : L2.atI xs 9 = xs[9]? := atI_ofNat (j := 9)
@[simp] theorem atI_10 {α : Type} {xs : List α} : L2.atI xs 10 = xs[10]? := atI_ofNat (j := 10)
@[simp] theorem atI_11 {α : Type} {xs : List α} : L2.atI xs 11 = xs[11]? := atI_ofNat (j := 11)
@[simp] theorem atI_12 {α : Type} {xs : List α} : L2.atI xs 12 = xs[12]? := atI_ofNat (j := 12)
@[simp] theorem atI_one {α : Type} {xs : List α} : L2.atI xs 1 = xs[1]? := atI_ofNat (j := 1)
@[simp] theorem fInt_int {i : Int} : fInt [.int i] C = .val (.int i) C := rfl
@[simp] theorem fInt_bl {b : Bool} : fInt [.bl b] C = .val (.int (if b then 1 else 0)) C := rfl
@[simp] theorem fAbs_int {i : Int} : fAbs [.int i] C = .val (.int (if i < 0 then -i else i)) C := rfl
@[simp] theorem fMin2_int {i j : Int} : fMin2 [.int i, .int j] C = .val (.int (if j < i then j else i)) C := rfl
@[simp] theorem fMax2_int {i j : Int} : fMax2 [.int i, .int j] C = .val (.int (if j > i then j else i)) C := rfl
@[simp] theorem fGcd_int {i j : Int} : fGcd [.int i, .int j] C = .val (.int ((Nat.gcd i.natAbs j.natAbs : Nat) : Int)) C := rfl
theorem fLen_ref {i : Nat} {ds : List D} (h : C[i]? = some (.lst ds)) : fLen [.ref i] C = .val (.int ds.length) C := by simp only [fLen, items_ref h]
theorem fLen_frz {i : Nat} {ds : List D} (h : C[i]? = some (.frz ds)) : fLen [.ref i] C = .val (.int ds.length) C := by simp only [fLen, items_frz h]
theorem fList_ref {i : Nat} {ds : List D} (h : C[i]? = some (.lst ds)) : fList [.ref i] C = .val (.ref C.length) (C ++ [.lst ds]) := by simp only [fList, items_ref h]
theorem fList_frz {i : Nat} {ds : List D} (h : C[i]? = some (.frz ds)) : fList [.ref i] C = .val (.ref C.length) (C ++ [.lst ds]) := by simp only [fList, items_frz h]
@[simp] theorem fList_tup {ds : List D} : fList [.tup ds] C = .val (.ref C.length) (C ++ [.lst ds]) := rfl
theorem setL_ref {p : Nat} {xs : List D} {k : Nat} {d : D} (h : C[p]? = some (.lst xs)) (hk : k < xs.length) : setL (.ref p) (.int k) d C = .val () (C.set p (.lst (xs.set k d))) := by
  simp only [setL, h, ixN, if_pos (show (0 : Int) ≤ (k : Int) by omega), if_pos (show (k : Int) < (xs.length : Int) by omega), Int.toNat_natCast]
theorem mAppend_ref {p : Nat} {xs : List D} {d : D} (h : C[p]? = some (.lst xs)) (hl : xs.length < sizeLine) : mAppend (.ref p) [d] C = .val .non (C.set p (.lst (xs ++ [d]))) := by simp only [mAppend, h, if_pos hl]
theorem isRecv_ref {p : Nat} {xs : List D} (h : C[p]? = some (.lst xs)) : isRecv "list" C (.ref p) = true := by simp only [isRecv, h]; rfl
theorem fnF_ap {n L : Nat} {m : MS} {ds : List D} (h : ds.length = n) : fnF n L m ds C = match m (ds.map some ++ List.replicate (L - n) none) C with
    | .nx _ C' => .val .non C'
    | .rt d C' => .val d C'
    | .exc x _ C' => .exc x C'
    | _ => .bad := by unfold fnF; rw [if_pos h]; try rfl
@[simp] theorem size_le {n : Nat} : (n ≤ sizeLine) = (n ≤ 16777216) := by rw [sizeLine_eq]
@[simp] theorem size_lt {n : Nat} : (n < sizeLine) = (n < 16777216) := by rw [sizeLine_eq]
end
/-! # sizes -/
theorem cmul_small {i j : Int} (hi : i.natAbs < 2 ^ 60000000) (hj : j.natAbs < 2 ^ 60000000) : CMulX i j := by
  have h1 : i.natAbs.log2 ≤ 60000000 := Nat.le_of_lt_succ (Nat.lt_succ_of_lt (PySem.Flt.log2_lt_of (by decide) hi))
  have h2 : j.natAbs.log2 ≤ 60000000 := Nat.le_of_lt_succ (Nat.lt_succ_of_lt (PySem.Flt.log2_lt_of (by decide) hj))
  unfold CMulX; omega
theorem cmul_of {i j : Int} {a b : Nat} (hi : i.natAbs < 2 ^ a) (hj : j.natAbs < 2 ^ b) (h : a + b ≤ 133000000) : CMulX i j := by
  have h1 : i.natAbs.log2 ≤ a := by
    by_cases z : a = 0
    · subst z
      have e : i.natAbs = 0 := by omega
      rw [e]; decide
    · exact Nat.le_of_lt (PySem.Flt.log2_lt_of (by omega) hi)
  have h2 : j.natAbs.log2 ≤ b := by
    by_cases z : b = 0
    · subst z
      have e : j.natAbs = 0 := by omega
      rw [e]; decide
    · exact Nat.le_of_lt (PySem.Flt.log2_lt_of (by omega) hj)
  unfold CMulX; omega
theorem cdiv_of {i j : Int} {b : Nat} (h0 : j ≠ 0) (hj : j.natAbs < 2 ^ b) (h : b ≤ 9000) : CDivX i j := by
  have h2 : j.natAbs.log2 < b := PySem.Flt.log2_lt_of (by
    by_cases z : b = 0
    · subst z; omega
    · omega) hj
  exact ⟨h0, by omega⟩
end Mp
namespace Mp
open PySem PySem.Spec PyProof.Rows L2
/-! # the heap as a list -/
theorem lt_of_some {α : Type} {C : List α} {s : Nat} {x : α} (h : C[s]? = some x) : s < C.length := by
  rcases Nat.lt_or_ge s C.length with h' | h'
  · exact h'
  · rw [List.getElem?_eq_none h'] at h; cases h
theorem set_same {α : Type} {C : List α} {s : Nat} {x : α} (h : C[s]? = some x) : C.set s x = C := by
  apply List.ext_getElem?
  intro i
  by_cases e : s = i
  · subst e
    rw [List.getElem?_set_self (lt_of_some h), h]
  · rw [List.getElem?_set_ne e]
theorem app_some {α : Type} {C E : List α} {s : Nat} {x : α} (h : C[s]? = some x) : (C ++ E)[s]? = some x := by
  rw [List.getElem?_append_left (lt_of_some h), h]
/-! # what is equal -/
theorem leaf_refl {d : D} {p : PyData} (h : leaf d = some p) : PyData.eqv p p = true := by
  cases d <;> simp only [leaf, Option.some.injEq, reduceCtorEq] at h <;> subst h <;> simp [PyData.eqv]
theorem allSome_refl {f : D → Option PyData} (hf : ∀ d p, f d = some p → PyData.eqv p p = true) : ∀ {ds : List D} {ps : List PyData}, allSome f ds = some ps → PyData.eqvAll ps ps = true
  | [], ps, h => by cases h; rfl
  | d :: ds, ps, h => by
    simp only [allSome] at h
    split at h
    · rename_i x xs e1 e2
      cases h
      simp only [PyData.eqvAll, hf _ _ e1, allSome_refl hf e2, Bool.and_self]
    · cases h
theorem toPy_refl : ∀ {n : Nat} {C : Hs} {d : D} {p : PyData}, toPy n C d = some p → PyData.eqv p p = true
  | 0, C, d, p, h => leaf_refl h
  | n + 1, C, d, p, h => by
    simp only [toPy] at h
    split at h
    · obtain ⟨ps, h1, rfl⟩ := Option.map_eq_some_iff.mp h
      simpa only [PyData.eqv] using allSome_refl (fun d p => toPy_refl) h1
    · split at h
      · obtain ⟨ps, h1, rfl⟩ := Option.map_eq_some_iff.mp h
        simpa only [PyData.eqv] using allSome_refl (fun d p => toPy_refl) h1
      · obtain ⟨ps, h1, rfl⟩ := Option.map_eq_some_iff.mp h
        simpa only [PyData.eqv] using allSome_refl (fun d p => toPy_refl) h1
      · cases h
    · exact leaf_refl h
theorem oEq_same {x y : D} {C : Hs} {p : PyData} (hx : toPy 64 C x = some p) (hy : toPy 64 C y = some p) : oEq x y C = .val (.bl true) C := by
  simp only [oEq, hx, hy, toPy_refl hx]
theorem oNe_same {x y : D} {C : Hs} {p : PyData} (hx : toPy 64 C x = some p) (hy : toPy 64 C y = some p) : oNe x y C = .val (.bl false) C := by
  simp only [oNe, hx, hy, toPy_refl hx]; rfl
theorem allSome_map {α : Type} {f : D → Option PyData} {g : α → D} {k : α → PyData} (h : ∀ a, f (g a) = some (k a)) : ∀ xs : List α, allSome f (xs.map g) = some (xs.map k)
  | [] => rfl
  | a :: r => by simp only [List.map_cons, allSome, h, allSome_map h r]
/-! # a comprehension over a range -/
theorem lc_rng {K dst : Nat} {t : MG} {me : ME} {s : Sl} (f : Nat → D) (P : Hs → Prop) (hP : ∀ C E, P C → P (C ++ E)) (hset : ∀ C x, P C → P (C.set dst x))
    (hb : ∀ i C, i < K → P C → ∃ s1 E, t (.int i) s C = .val s1 C ∧ me s1 C = .val (f i) (C ++ E)) : ∀ (r i n : Nat) (acc : List D) (C : Hs), i + r = K → r < n → C[dst]? = some (.lst acc) → P C → acc.length + r < 2 ^ 20 →
    ∃ E, loopC ⟨K + 1, nxRng 0 K⟩ t bYes me dst n i s C = .val (.ref dst) (C.set dst (.lst (acc ++ (List.range' i r).map f)) ++ E)
  | 0, i, n, acc, C, hi, hn, hC, hp, hl => by
    obtain ⟨n, rfl⟩ : ∃ j, n = j + 1 := ⟨n - 1, by omega⟩
    refine ⟨[], ?_⟩
    unfold loopC
    simp [nxRng, show ¬ i < K by omega, set_same hC]
  | r + 1, i, n, acc, C, hi, hn, hC, hp, hl => by
    obtain ⟨n, rfl⟩ : ∃ j, n = j + 1 := ⟨n - 1, by omega⟩
    obtain ⟨s1, E1, h1, h2⟩ := hb i C (by omega) hp
    have lp := lt_of_some hC
    have hC1 : (C ++ E1)[dst]? = some (.lst acc) := app_some hC
    have lp1 := lt_of_some hC1
    obtain ⟨E2, h3⟩ := lc_rng f P hP hset hb r (i + 1) n (acc ++ [f i]) ((C ++ E1).set dst (.lst (acc ++ [f i]))) (by omega) (by omega) (by simp only [List.getElem?_set_self lp1]) (hset _ _ (hP _ _ hp)) (by simp only [List.length_append, List.length_singleton]; omega)
    refine ⟨E1 ++ E2, ?_⟩
    unfold loopC
    simp only [nxRng, show i < K by omega, if_pos, Int.zero_add, h1, h2, bYes_ap, bind_val, hC1, size_lt, show acc.length < 16777216 by omega, h3]
    congr 1
    rw [List.set_set, List.set_append_left (h := lp), List.append_assoc, List.append_assoc]
    simp [List.range'_succ]
theorem lc_rng_exc {K dst J : Nat} {t : MG} {me : ME} {s : Sl} {x : X} (f : Nat → D) (P : Hs → Prop) (hP : ∀ C E, P C → P (C ++ E)) (hset : ∀ C x, P C → P (C.set dst x)) (hJ : J < K)
    (hb : ∀ i C, i < J → P C → ∃ s1 E, t (.int i) s C = .val s1 C ∧ me s1 C = .val (f i) (C ++ E)) (hx : ∀ C, P C → ∃ s1 E, t (.int J) s C = .val s1 C ∧ me s1 C = .exc x (C ++ E)) : ∀ (r i n : Nat) (acc : List D) (C : Hs), i + r = J → r < n → C[dst]? = some (.lst acc) → P C → acc.length + r < 2 ^ 20 →
    ∃ acc' E, loopC ⟨K + 1, nxRng 0 K⟩ t bYes me dst n i s C = .exc x (C.set dst (.lst acc') ++ E)
  | 0, i, n, acc, C, hi, hn, hC, hp, hl => by
    obtain ⟨n, rfl⟩ : ∃ j, n = j + 1 := ⟨n - 1, by omega⟩
    obtain rfl : i = J := by omega
    obtain ⟨s1, E, h1, h2⟩ := hx C hp
    refine ⟨acc, E, ?_⟩
    unfold loopC
    simp only [nxRng, hJ, if_pos, Int.zero_add, h1, h2, bYes_ap, bind_val, bind_exc, set_same hC]
  | r + 1, i, n, acc, C, hi, hn, hC, hp, hl => by
    obtain ⟨n, rfl⟩ : ∃ j, n = j + 1 := ⟨n - 1, by omega⟩
    obtain ⟨s1, E1, h1, h2⟩ := hb i C (by omega) hp
    have lp := lt_of_some hC
    have hC1 : (C ++ E1)[dst]? = some (.lst acc) := app_some hC
    have lp1 := lt_of_some hC1
    obtain ⟨acc2, E2, h3⟩ := lc_rng_exc f P hP hset hJ hb hx r (i + 1) n (acc ++ [f i]) ((C ++ E1).set dst (.lst (acc ++ [f i]))) (by omega) (by omega) (by simp only [List.getElem?_set_self lp1]) (hset _ _ (hP _ _ hp)) (by simp only [List.length_append, List.length_singleton]; omega)
    refine ⟨acc2, E1 ++ E2, ?_⟩
    unfold loopC
    simp only [nxRng, show i < K by omega, if_pos, Int.zero_add, h1, h2, bYes_ap, bind_val, hC1, size_lt, show acc.length < 16777216 by omega, h3]
    congr 1
    rw [List.set_set, List.set_append_left (h := lp), List.append_assoc]
/-! # a body, statement by statement -/
theorem fnF_rt {n L : Nat} {m : MS} {ds : List D} {C C' : Hs} {d : D} (h : ds.length = n) (e : m (ds.map some ++ List.replicate (L - n) none) C = .rt d C') : fnF n L m ds C = .val d C' := by rw [fnF_ap h, e]
theorem stS {a b : MS} {s s' : Sl} {C C' : Hs} {P : RS → Prop} (h : a s C = .nx s' C') (k : P (b s' C')) : P (sSeq a b s C) := by rw [sSeq_ap, h]; exact k
theorem stA {m : ME} {i : Nat} {b : MS} {s : Sl} {C C' : Hs} {v : D} {P : RS → Prop} (h : m s C = .val v C') (k : P (b (s.set i (some v)) C')) : P (sSeq (sAsg m (tgN i)) b s C) := by
  rw [sSeq_ap, sAsg_ap, h]; exact k
theorem stIf0 {t : MB} {a b : MS} {s : Sl} {C C' : Hs} {P : RS → Prop} (h : t s C = .val false C') (k : P (b s C')) : P (sSeq (sIf t a sSkip) b s C) := by
  rw [sSeq_ap, sIf_ap, h]; exact k
theorem stIf1 {t : MB} {a b : MS} {s : Sl} {C C' : Hs} {P : RS → Prop} (h : t s C = .val true C') (k : P ((a s C').seq b)) : P (sSeq (sIf t a sSkip) b s C) := by
  rw [sSeq_ap, sIf_ap, h]; exact k
theorem fIsi_lst {i : Nat} {ds : List D} {C : Hs} {T : String} (h : C[i]? = some (.lst ds)) : fIsi T (.ref i) C = .val (.bl (isTy "list" T)) C := by simp only [fIsi, tyName, h]
end Mp
namespace Lw
open PySem PySem.Spec PyProof.Rows L2 Mp
/-- a fraction of the program -/
def fr (x : Rat) : D := .tup [.int x.num, .int x.den]
theorem den_pos (x : Rat) : (0 : Int) < (x.den : Int) := by have := x.den_pos; omega
theorem den_ne (x : Rat) : (x.den : Int) ≠ 0 := by have := x.den_pos; omega
theorem natAbs_le_of_dvd {a b : Int} (h : a ∣ b) (hb : b ≠ 0) : a.natAbs ≤ b.natAbs := Nat.le_of_dvd (by omega) (Int.natAbs_dvd_natAbs.mpr h)
theorem cdiv_gcd {z p q : Int} (h0 : q ≠ 0) (hs : q.natAbs < 2 ^ 9000) : CDivX z ((Nat.gcd p.natAbs q.natAbs : Nat) : Int) := by
  have hg : Nat.gcd p.natAbs q.natAbs ≤ q.natAbs := Nat.gcd_le_right _ (by omega)
  have hp : 0 < Nat.gcd p.natAbs q.natAbs := Nat.gcd_pos_of_pos_right _ (by omega)
  exact cdiv_of (b := 9000) (by omega) (by rw [Int.natAbs_natCast]; omega) (by omega)
theorem fr_divInt_pos {p q : Int} (h : 0 < q) : fr (Rat.divInt p q) = .tup [.int (p.fdiv (Nat.gcd p.natAbs q.natAbs)), .int (q.fdiv (Nat.gcd p.natAbs q.natAbs))] := by
  have hg : (0 : Int) ≤ ((Nat.gcd p.natAbs q.natAbs : Nat) : Int) := by omega
  simp only [fr, Rat.num_divInt, Rat.den_divInt, if_neg (show q ≠ 0 by omega)]
  have e : q.gcd p = Nat.gcd p.natAbs q.natAbs := by rw [Int.gcd_comm]; rfl
  rw [e, Int.sign_eq_one_of_pos h, Int.one_mul, Int.fdiv_eq_ediv_of_nonneg _ hg, Int.fdiv_eq_ediv_of_nonneg _ hg]
  congr 4
  rw [Int.natCast_ediv]
  congr 1
  omega
theorem run_fraction (p q : Int) (C : Hs) (h0 : q ≠ 0) (hs : q.natAbs < 2 ^ 9000) : F_fraction [.int p, .int q] C = .val (fr (Rat.divInt p q)) C := by
  have hd : ∀ z, CDivX z ((Nat.gcd p.natAbs q.natAbs : Nat) : Int) := fun z => cdiv_gcd h0 hs
  by_cases hq : 0 < q
  · rw [fr_divInt_pos hq]
    simp [F_fraction, fnF_ap, m_fraction, hq, h0, hd]
  · have e : Rat.divInt p q = Rat.divInt (-p) (-q) := (Rat.neg_divInt_neg p q).symm
    rw [e, fr_divInt_pos (show 0 < -q by omega)]
    simp [F_fraction, fnF_ap, m_fraction, hq, h0, hd]
/-! ## sizes of fractions -/
def Sm (k : Nat) (x : Rat) : Prop := x.num.natAbs < 2 ^ k ∧ x.den < 2 ^ k
theorem Sm.mono {j k : Nat} {x : Rat} (h : Sm j x) (l : j ≤ k) : Sm k x := by
  have := Nat.pow_le_pow_right (show 0 < 2 by omega) l
  exact ⟨by have := h.1; omega, by have := h.2; omega⟩
theorem sm_divInt {k : Nat} {p q : Int} (h : 0 < q) (hp : p.natAbs < 2 ^ k) (hq : q.natAbs < 2 ^ k) : Sm k (Rat.divInt p q) := by
  constructor
  · rw [Rat.num_divInt, Int.sign_eq_one_of_pos h, Int.one_mul]
    have := Int.natAbs_ediv_le_natAbs p (q.gcd p : Int)
    omega
  · rw [Rat.den_divInt, if_neg (by omega)]
    have := Nat.div_le_self q.natAbs (q.gcd p)
    omega
theorem natAbs_mul_lt {a b : Int} {j k : Nat} (ha : a.natAbs < 2 ^ j) (hb : b.natAbs < 2 ^ k) : (a * b).natAbs < 2 ^ (j + k) := by
  rw [Int.natAbs_mul, Nat.pow_add]
  exact Nat.mul_lt_mul'' ha hb
theorem natAbs_add_lt {a b : Int} {k : Nat} (ha : a.natAbs < 2 ^ k) (hb : b.natAbs < 2 ^ k) : (a + b).natAbs < 2 ^ (k + 1) := by
  have := Int.natAbs_add_le a b
  rw [Nat.pow_succ]; omega
theorem add_divInt (x y : Rat) : x + y = Rat.divInt (x.num * y.den + y.num * x.den) (x.den * y.den) := by
  rw [← Rat.divInt_add_divInt _ _ (den_ne x) (den_ne y), Rat.num_divInt_den, Rat.num_divInt_den]
theorem add_divInt_same (x y : Rat) (h : x.den = y.den) : x + y = Rat.divInt (x.num + y.num) x.den := by
  rw [add_divInt x y, ← h, ← Int.add_mul, Rat.divInt_mul_right (den_ne x)]
theorem mul_divInt (x y : Rat) : x * y = Rat.divInt (x.num * y.num) (x.den * y.den) := by
  rw [← Rat.divInt_mul_divInt, Rat.num_divInt_den, Rat.num_divInt_den]
theorem sub_divInt (x y : Rat) : x - y = Rat.divInt (x.num * y.den - y.num * x.den) (x.den * y.den) := by
  rw [← Rat.divInt_sub_divInt _ _ (den_ne x) (den_ne y), Rat.num_divInt_den, Rat.num_divInt_den]
theorem Sm.add {j k : Nat} {x y : Rat} (hx : Sm j x) (hy : Sm k y) : Sm (j + k + 1) (x + y) := by
  rw [add_divInt]
  refine sm_divInt (Int.mul_pos (den_pos x) (den_pos y)) ?_ ?_
  · exact natAbs_add_lt (natAbs_mul_lt hx.1 hy.2) (by rw [Nat.add_comm]; exact natAbs_mul_lt hy.1 hx.2)
  · have := natAbs_mul_lt (a := x.den) (b := y.den) hx.2 hy.2
    rw [Nat.pow_succ]; omega
theorem Sm.mul {j k : Nat} {x y : Rat} (hx : Sm j x) (hy : Sm k y) : Sm (j + k) (x * y) := by
  rw [mul_divInt]
  exact sm_divInt (Int.mul_pos (den_pos x) (den_pos y)) (natAbs_mul_lt hx.1 hy.1) (natAbs_mul_lt (a := x.den) (b := y.den) hx.2 hy.2)
theorem Sm.neg {j : Nat} {x : Rat} (hx : Sm j x) : Sm j (-x) := ⟨by rw [Rat.neg_num, Int.natAbs_neg]; exact hx.1, by rw [Rat.neg_den]; exact hx.2⟩
theorem Sm.sub {j k : Nat} {x y : Rat} (hx : Sm j x) (hy : Sm k y) : Sm (j + k + 1) (x - y) := by rw [Rat.sub_eq_add_neg]; exact hx.add hy.neg
theorem pow_lt {a b : Nat} (h : a < b) : 2 ^ a < 2 ^ b := Nat.pow_lt_pow_right (by omega) h
theorem pow_le {a b : Nat} (h : a ≤ b) : 2 ^ a ≤ 2 ^ b := Nat.pow_le_pow_right (by omega) h
theorem cm {a b : Int} {j k : Nat} (ha : a.natAbs < 2 ^ j) (hb : b.natAbs < 2 ^ k) (hj : j ≤ 50000) (hk : k ≤ 50000) : CMulX a b := cmul_of ha hb (by omega)
/-! ## plus, minus, times -/
theorem run_plus {j : Nat} (x y : Rat) (C : Hs) (hx : Sm j x) (hy : Sm j y) (hj : j ≤ 2000) : F_plus [fr x, fr y] C = .val (fr (x + y)) C := by
  have c1 : CMulX x.num y.den := cm hx.1 hy.2 (by omega) (by omega)
  have c2 : CMulX y.num x.den := cm hy.1 hx.2 (by omega) (by omega)
  have c3 : CMulX x.den y.den := cm (k := j) (a := x.den) (b := y.den) hx.2 hy.2 (by omega) (by omega)
  by_cases h : x.den = y.den
  · rw [add_divInt_same x y h]
    have r := run_fraction (x.num + y.num) x.den C (den_ne x) (by rw [Int.natAbs_natCast]; exact Nat.lt_trans hx.2 (pow_lt (by omega)))
    simp [F_plus, fnF_ap, m_plus, fr, h]
    rw [← h, r]; simp [fr]
  · rw [add_divInt x y]
    have r := run_fraction (x.num * y.den + y.num * x.den) (x.den * y.den) C (Int.mul_ne_zero (den_ne x) (den_ne y)) (Nat.lt_of_lt_of_le (natAbs_mul_lt (a := x.den) (b := y.den) hx.2 hy.2) (pow_le (by omega)))
    have h' : (x.den : Int) ≠ (y.den : Int) := by omega
    simp [F_plus, fnF_ap, m_plus, fr, h', c1, c2, c3]
    rw [r]; simp [fr]
theorem run_opposite (x : Rat) (C : Hs) : F_opposite [fr x] C = .val (fr (-x)) C := by
  simp [F_opposite, fnF_ap, m_opposite, fr]
theorem run_minus {j : Nat} (x y : Rat) (C : Hs) (hx : Sm j x) (hy : Sm j y) (hj : j ≤ 2000) : F_minus [fr x, fr y] C = .val (fr (x - y)) C := by
  simp [F_minus, fnF_ap, m_minus, run_opposite, run_plus _ _ _ hx hy.neg hj, Rat.sub_eq_add_neg]
theorem run_times {j : Nat} (x y : Rat) (C : Hs) (hx : Sm j x) (hy : Sm j y) (hj : j ≤ 2000) : F_times [fr x, fr y] C = .val (fr (x * y)) C := by
  have c1 : CMulX x.num y.num := cm hx.1 hy.1 (by omega) (by omega)
  have c3 : CMulX x.den y.den := cm (k := j) (a := x.den) (b := y.den) hx.2 hy.2 (by omega) (by omega)
  rw [mul_divInt x y]
  have r := run_fraction (x.num * y.num) (x.den * y.den) C (Int.mul_ne_zero (den_ne x) (den_ne y)) (Nat.lt_of_lt_of_le (natAbs_mul_lt (a := x.den) (b := y.den) hx.2 hy.2) (pow_le (by omega)))
  simp [F_times, fnF_ap, m_times, fr, c1, c3]
  rw [r]; simp [fr]
end Lw
namespace Lw
open PySem PySem.Spec PyProof.Rows L2 Mp
/-! ## the law's own fractions -/
theorem euc (c d : Option D) (C : Hs) : ∀ (m : Nat) (a b n i : Nat) (w : Option D), b < 2 ^ m → 2 * m + 2 ≤ n → i + n = 5001 → m ≤ 2400 →
    ∃ w', loopF ⟨5001, nxRng 0 5000⟩ (tgN 4) (sSeq (sIf (toB (eBin oEq (eVar 3) (eC (.int 0)))) sBreak sSkip)
      (sPar 2 3 (lCons (eVar 3) (lCons (eBin oMod (eCall fInt (lCons (eVar 2) lNil)) (eVar 3)) lNil)))) n i [c, d, some (.int a), some (.int b), w] C = .nx [c, d, some (.int (Nat.gcd a b)), some (.int 0), w'] C := by
  have step : ∀ (a b n i : Nat) (w : Option D), i < 5000 → b ≠ 0 → loopF ⟨5001, nxRng 0 5000⟩ (tgN 4) (sSeq (sIf (toB (eBin oEq (eVar 3) (eC (.int 0)))) sBreak sSkip)
      (sPar 2 3 (lCons (eVar 3) (lCons (eBin oMod (eCall fInt (lCons (eVar 2) lNil)) (eVar 3)) lNil)))) (n + 1) i [c, d, some (.int a), some (.int b), w] C = loopF ⟨5001, nxRng 0 5000⟩ (tgN 4) (sSeq (sIf (toB (eBin oEq (eVar 3) (eC (.int 0)))) sBreak sSkip)
      (sPar 2 3 (lCons (eVar 3) (lCons (eBin oMod (eCall fInt (lCons (eVar 2) lNil)) (eVar 3)) lNil)))) n (i + 1) [c, d, some (.int b), some (.int ((a % b : Nat) : Int)), some (.int i)] C := by
    intro a b n i w hi hb
    have hb' : (b : Int) ≠ 0 := by omega
    conv => lhs; unfold loopF
    simp [nxRng, hi, hb, hb', Int.fmod_eq_emod_of_nonneg]
  have stop : ∀ (a n i : Nat) (w : Option D), i < 5000 → loopF ⟨5001, nxRng 0 5000⟩ (tgN 4) (sSeq (sIf (toB (eBin oEq (eVar 3) (eC (.int 0)))) sBreak sSkip)
      (sPar 2 3 (lCons (eVar 3) (lCons (eBin oMod (eCall fInt (lCons (eVar 2) lNil)) (eVar 3)) lNil)))) (n + 1) i [c, d, some (.int a), some (.int ((0 : Nat) : Int)), w] C = .nx [c, d, some (.int a), some (.int 0), some (.int i)] C := by
    intro a n i w hi
    conv => lhs; unfold loopF
    simp [nxRng, hi]
  intro m
  induction m with
  | zero =>
    intro a b n i w hb hn hi hm
    obtain ⟨n, rfl⟩ : ∃ k, n = k + 1 := ⟨n - 1, by omega⟩
    have : b = 0 := by omega
    subst this
    exact ⟨_, by rw [stop _ _ _ _ (by omega), Nat.gcd_zero_right]⟩
  | succ m ih =>
    intro a b n i w hb hn hi hm
    obtain ⟨n, rfl⟩ : ∃ k, n = k + 2 := ⟨n - 2, by omega⟩
    by_cases h0 : b = 0
    · subst h0
      exact ⟨_, by rw [show n + 2 = (n + 1) + 1 from rfl, stop _ _ _ _ (by omega), Nat.gcd_zero_right]⟩
    · rw [show n + 2 = (n + 1) + 1 from rfl, step _ _ _ _ _ (by omega) h0]
      have hg : Nat.gcd a b = Nat.gcd b (a % b) := by rw [Nat.gcd_comm, Nat.gcd_rec, Nat.gcd_comm]
      rw [hg]
      by_cases h1 : a % b = 0
      · rw [h1]
        exact ⟨_, by rw [stop _ _ _ _ (by omega), Nat.gcd_zero_right]⟩
      · rw [step _ _ _ _ _ (by omega) h1]
        have hg2 : Nat.gcd b (a % b) = Nat.gcd (a % b) (b % (a % b)) := by rw [Nat.gcd_comm, Nat.gcd_rec, Nat.gcd_comm]
        rw [hg2]
        refine ih _ _ n (i + 1 + 1) _ ?_ (by omega) (by omega) (by omega)
        have l1 : a % b < b := Nat.mod_lt _ (by omega)
        have l2 : b % (a % b) < a % b := Nat.mod_lt _ (by omega)
        have l3 : a % b * (b / (a % b)) + b % (a % b) = b := Nat.div_add_mod _ _
        have l4 : 1 ≤ b / (a % b) := (Nat.le_div_iff_mul_le (by omega)).mpr (by omega)
        have l5 : a % b ≤ a % b * (b / (a % b)) := Nat.le_mul_of_pos_right _ (by omega)
        rw [Nat.pow_succ] at hb
        omega
theorem run_lowest (p q : Int) (C : Hs) (h0 : 0 < q) (hs : q.natAbs < 2 ^ 2400) : F_law_lowest [.int p, .int q] C = .val (fr (Rat.divInt p q)) C := by
  obtain ⟨Q, rfl⟩ := Int.eq_ofNat_of_zero_le (show 0 ≤ q by omega)
  have e : (if p < 0 then -p else p) = ((p.natAbs : Nat) : Int) := by split <;> omega
  obtain ⟨w, hw⟩ := euc (some (.int p)) (some (.int Q)) C 2400 p.natAbs Q 5001 0 none (by simpa using hs) (by omega) (by omega) (by omega)
  have hg : 0 < Nat.gcd p.natAbs Q := Nat.gcd_pos_of_pos_right _ (by omega)
  have hd : ∀ z, CDivX z ((Nat.gcd p.natAbs Q : Nat) : Int) := fun z => by
    have := cdiv_gcd (z := z) (p := p) (q := Q) (by omega) (Nat.lt_trans hs (pow_lt (by omega)))
    simpa using this
  rw [fr_divInt_pos h0]
  have hpq : ¬ (p = 0 ∧ Q = 0) := by omega
  simp [F_law_lowest, fnF_ap, m_law_lowest, show InR 5000 from inR_of (by omega) (by omega), e, hw, hpq, hd]
theorem run_law_plus {j : Nat} (x y : Rat) (C : Hs) (hx : Sm j x) (hy : Sm j y) (hj : j ≤ 1000) : F_law_plus [fr x, fr y] C = .val (fr (x + y)) C := by
  have c1 : CMulX x.num y.den := cm hx.1 hy.2 (by omega) (by omega)
  have c2 : CMulX y.num x.den := cm hy.1 hx.2 (by omega) (by omega)
  have c3 : CMulX x.den y.den := cm (k := j) (a := x.den) (b := y.den) hx.2 hy.2 (by omega) (by omega)
  rw [add_divInt x y]
  have r := run_lowest (x.num * y.den + y.num * x.den) (x.den * y.den) C (Int.mul_pos (den_pos x) (den_pos y)) (Nat.lt_of_lt_of_le (natAbs_mul_lt (a := x.den) (b := y.den) hx.2 hy.2) (pow_le (by omega)))
  simp [F_law_plus, fnF_ap, m_law_plus, fr, c1, c2, c3]
  rw [r]; simp [fr]
theorem run_law_minus {j : Nat} (x y : Rat) (C : Hs) (hx : Sm j x) (hy : Sm j y) (hj : j ≤ 1000) : F_law_minus [fr x, fr y] C = .val (fr (x - y)) C := by
  have c1 : CMulX x.num y.den := cm hx.1 hy.2 (by omega) (by omega)
  have c2 : CMulX y.num x.den := cm hy.1 hx.2 (by omega) (by omega)
  have c3 : CMulX x.den y.den := cm (k := j) (a := x.den) (b := y.den) hx.2 hy.2 (by omega) (by omega)
  rw [sub_divInt x y]
  have r := run_lowest (x.num * y.den - y.num * x.den) (x.den * y.den) C (Int.mul_pos (den_pos x) (den_pos y)) (Nat.lt_of_lt_of_le (natAbs_mul_lt (a := x.den) (b := y.den) hx.2 hy.2) (pow_le (by omega)))
  simp [F_law_minus, fnF_ap, m_law_minus, fr, c1, c2, c3]
  rw [r]; simp [fr]
theorem run_law_times {j : Nat} (x y : Rat) (C : Hs) (hx : Sm j x) (hy : Sm j y) (hj : j ≤ 1000) : F_law_times [fr x, fr y] C = .val (fr (x * y)) C := by
  have c1 : CMulX x.num y.num := cm hx.1 hy.1 (by omega) (by omega)
  have c3 : CMulX x.den y.den := cm (k := j) (a := x.den) (b := y.den) hx.2 hy.2 (by omega) (by omega)
  rw [mul_divInt x y]
  have r := run_lowest (x.num * y.num) (x.den * y.den) C (Int.mul_pos (den_pos x) (den_pos y)) (Nat.lt_of_lt_of_le (natAbs_mul_lt (a := x.den) (b := y.den) hx.2 hy.2) (pow_le (by omega)))
  simp [F_law_times, fnF_ap, m_law_times, fr, c1, c3]
  rw [r]; simp [fr]
end Lw
namespace Lw
open PySem PySem.Spec PyProof.Rows L2 Mp
/-! ## dates -/
def mlen (m : Nat) : Int := match m with | 1 => 31 | 2 => 28 | 3 => 31 | 4 => 30 | 5 => 31 | 6 => 30 | 7 => 31 | 8 => 31 | 9 => 30 | 10 => 31 | 11 => 30 | 12 => 31 | _ => 0
def cum (m : Nat) : Int := match m with | 1 => 0 | 2 => 31 | 3 => 59 | 4 => 90 | 5 => 120 | 6 => 151 | 7 => 181 | 8 => 212 | 9 => 243 | 10 => 273 | 11 => 304 | 12 => 334 | 13 => 365 | _ => 0
theorem c12 {P : Nat → Prop} (h : ∀ j : Fin 12, P (j.val + 1)) (m : Nat) (h1 : 1 ≤ m) (h2 : m ≤ 12) : P m := by
  have := h ⟨m - 1, by omega⟩
  rwa [show (m - 1) + 1 = m by omega] at this
theorem mlen_pos (m : Nat) (h1 : 1 ≤ m) (h2 : m ≤ 12) : 28 ≤ mlen m ∧ mlen m ≤ 31 := by
  revert m; exact c12 (P := fun m => 28 ≤ mlen m ∧ mlen m ≤ 31) (by decide)
theorem cum_succ (m : Nat) (h1 : 1 ≤ m) (h2 : m ≤ 12) : cum (m + 1) = cum m + mlen m := by
  revert m; exact c12 (P := fun m => cum (m + 1) = cum m + mlen m) (by decide)
theorem cum_bd (m : Nat) (h1 : 1 ≤ m) (h2 : m ≤ 12) : 0 ≤ cum m ∧ cum m ≤ 334 := by
  revert m; exact c12 (P := fun m => 0 ≤ cum m ∧ cum m ≤ 334) (by decide)
theorem cum_mono : ∀ (a b : Nat), 1 ≤ a → a ≤ b → b ≤ 12 → cum a ≤ cum b := by
  intro a b h1 h2 h3
  obtain ⟨k, rfl⟩ := Nat.le.dest h2
  clear h2
  induction k with
  | zero => exact Int.le_refl _
  | succ k ih =>
    have := ih (by omega)
    have e := cum_succ (a + k) (by omega) (by omega)
    have p := mlen_pos (a + k) (by omega) (by omega)
    rw [show a + (k + 1) = a + k + 1 from rfl]; omega
/-- the month of a day of the year, found by counting on -/
def mon (r : Int) : Nat := if r < 31 then 1 else if r < 59 then 2 else if r < 90 then 3 else if r < 120 then 4 else if r < 151 then 5 else if r < 181 then 6 else if r < 212 then 7 else if r < 243 then 8 else if r < 273 then 9 else if r < 304 then 10 else if r < 334 then 11 else 12
theorem mon_rng (r : Int) : 1 ≤ mon r ∧ mon r ≤ 12 := by unfold mon; (repeat' split) <;> omega
theorem mon_spec (r : Int) (h0 : 0 ≤ r) (h1 : r < 365) : cum (mon r) ≤ r ∧ r < cum (mon r) + mlen (mon r) := by
  unfold mon; (repeat' split) <;> simp only [cum, mlen] <;> omega
theorem mon_uniq (r : Int) (m : Nat) (h1 : 1 ≤ m) (h2 : m ≤ 12) (h : cum m ≤ r) (h' : r < cum m + mlen m) (h0 : 0 ≤ r) (h3 : r < 365) : m = mon r := by
  have := mon_rng r
  have := mon_spec r h0 h3
  by_cases lt : m < mon r
  · have := cum_mono (m + 1) (mon r) (by omega) (by omega) (by omega)
    have := cum_succ m h1 h2
    omega
  · by_cases gt : mon r < m
    · have := cum_mono (mon r + 1) m (by omega) (by omega) (by omega)
      have := cum_succ (mon r) (by omega) (by omega)
      omega
    · omega
theorem ix_months (m : Nat) (h1 : 1 ≤ m) (h2 : m ≤ 12) (C : Hs) : oIx c_MONTHS (.int ((m : Int) - 1)) C = .val (.int (mlen m)) C := by
  revert m; exact c12 (P := fun m => oIx c_MONTHS (.int ((m : Int) - 1)) C = .val (.int (mlen m)) C) (by
    intro j
    match j with
    | 0 => rfl
    | 1 => rfl
    | 2 => rfl
    | 3 => rfl
    | 4 => rfl
    | 5 => rfl
    | 6 => rfl
    | 7 => rfl
    | 8 => rfl
    | 9 => rfl
    | 10 => rfl
    | 11 => rfl)
theorem date_loop (d : Option D) (C : Hs) : ∀ (k n m : Nat) (r : Int), m + k = 12 → 1 ≤ m → k < n → 0 ≤ r → r + cum m < 365 →
    ∃ r' m', loopW (toB (eBin oGe (eVar 1) (eBin oIx (eC c_MONTHS) (eBin oSub (eVar 2) (eC (.int 1)))))) (sSeq (sAug 1 oSub (eBin oIx (eC c_MONTHS) (eBin oSub (eVar 2) (eC (.int 1)))))
  (sAug 2 oAddI (eC (.int 1)))) n [d, some (.int r), some (.int m)] C = .nx [d, some (.int r'), some (.int ((m' : Nat) : Int))] C ∧ m ≤ m' ∧ m' ≤ 12 ∧ 0 ≤ r' ∧ r' < mlen m' ∧ r' + cum m' = r + cum m := by
  intro k
  induction k with
  | zero =>
    intro n m r hm h1 hn h0 hr
    obtain ⟨n, rfl⟩ : ∃ j, n = j + 1 := ⟨n - 1, by omega⟩
    have e : m = 12 := by omega
    subst e
    refine ⟨r, 12, ?_, by omega, by omega, h0, ?_, rfl⟩
    · have i := ix_months 12 (by omega) (by omega) C
      have lt : ¬ mlen 12 ≤ r := by simp only [mlen, cum] at *; omega
      unfold loopW
      simp at i
      simp [i, lt]
    · simp only [mlen, cum] at *; omega
  | succ k ih =>
    intro n m r hm h1 hn h0 hr
    obtain ⟨n, rfl⟩ : ∃ j, n = j + 1 := ⟨n - 1, by omega⟩
    have i := ix_months m (by omega) (by omega) C
    by_cases lt : mlen m ≤ r
    · have cs := cum_succ m (by omega) (by omega)
      obtain ⟨r', m', e, h⟩ := ih n (m + 1) (r - mlen m) (by omega) (by omega) (by omega) (by omega) (by rw [cs]; omega)
      refine ⟨r', m', ?_, by omega, h.2.1, h.2.2.1, h.2.2.2.1, by rw [h.2.2.2.2, cs]; omega⟩
      conv => lhs; unfold loopW
      simp [i, lt]
      simpa using e
    · refine ⟨r, m, ?_, by omega, by omega, h0, by omega, rfl⟩
      unfold loopW
      simp [i, lt]
/-- year, month and number of a day -/
def yr (d : Int) : Int := d / 365
def mo (d : Int) : Nat := mon (d % 365)
def nu (d : Int) : Int := d % 365 - cum (mo d) + 1
theorem nu_rng (d : Int) : 1 ≤ nu d ∧ nu d ≤ mlen (mo d) := by
  have := mon_spec (d % 365) (Int.emod_nonneg _ (by omega)) (Int.emod_lt_of_pos _ (by omega))
  unfold nu mo; omega
theorem mo_rng (d : Int) : 1 ≤ mo d ∧ mo d ≤ 12 := mon_rng _
theorem day_eq (d : Int) : d = 365 * yr d + cum (mo d) + nu d - 1 := by
  have := Int.mul_ediv_add_emod d 365
  unfold nu yr; omega
theorem run_date (d : Int) (C : Hs) (h0 : 0 ≤ d) : F_date_of [.int d] C = .val (.tup [.int (yr d), .int (mo d), .int (nu d)]) C := by
  have hr := Int.emod_nonneg d (show (365 : Int) ≠ 0 by omega)
  have hl := Int.emod_lt_of_pos d (show (0 : Int) < 365 by omega)
  obtain ⟨r', m', e, h1, h2, h3, h4, h5⟩ := date_loop (some (.int d)) C 11 fuelW 1 (d % 365) (by omega) (by omega) (by decide) hr (by simp only [cum]; omega)
  rw [show cum 1 = 0 from rfl] at h5
  have hm : m' = mo d := mon_uniq _ _ h1 h2 (by omega) (by omega) hr hl
  subst hm
  have hn : r' + 1 = nu d := by unfold nu; omega
  have hc : CDivX d 365 := cdiv_of (b := 9) (by omega) (by decide) (by omega)
  simp at e
  simp [F_date_of, fnF_ap, m_date_of, c_YEAR, show ¬ d < 0 by omega, Int.fmod_eq_emod_of_nonneg, e, hc, Int.fdiv_eq_ediv_of_nonneg, hn]
  rfl
end Lw
namespace Lw
open PySem PySem.Spec PyProof.Rows L2 Mp
def lens : List D := [.int 31, .int 28, .int 31, .int 30, .int 31, .int 30, .int 31, .int 31, .int 30, .int 31, .int 30, .int 31]
theorem run_lengths (C : Hs) : F_law_lengths [] C = .val (.ref C.length) (C ++ [.lst lens]) := by
  simp [F_law_lengths, fnF_ap, m_law_lengths, lens]
theorem ix_lens (m : Nat) (h1 : 1 ≤ m) (h2 : m ≤ 12) (C : Hs) (p : Nat) (hp : C[p]? = some (.lst lens)) (k : Int) (hk : k = (m : Int) - 1) : oIx (.ref p) (.int k) C = .val (.int (mlen m)) C := by
  subst hk
  rw [oIx_ref hp]
  revert m; exact c12 (P := fun m => (match L2.atI lens ((m : Int) - 1) with | some d => R.val d C | none => .bad) = .val (.int (mlen m)) C) (by
    intro j
    match j with
    | 0 => rfl
    | 1 => rfl
    | 2 => rfl
    | 3 => rfl
    | 4 => rfl
    | 5 => rfl
    | 6 => rfl
    | 7 => rfl
    | 8 => rfl
    | 9 => rfl
    | 10 => rfl
    | 11 => rfl)
theorem ldate_loop (d : Option D) (y : D) (p : Nat) (C : Hs) (hp : C[p]? = some (.lst lens)) : ∀ (k n i : Nat) (r : Int) (w : Option D), i + k = 11 → i + n = 13 → 0 ≤ r → r + cum (i + 1) < 365 →
    ∃ r' m', loopF ⟨13, nxRng 0 12⟩ (tgN 4) (sSeq (sIf (toB (eBin oLt (eVar 2) (eBin oIx (eVar 3) (eVar 4)))) (sRet (eTup (lCons (eVar 1) (lCons (eBin oAdd (eVar 4) (eC (.int 1))) (lCons (eBin oAdd (eVar 2) (eC (.int 1))) lNil))))) sSkip)
  (sAsg (eBin oSub (eVar 2) (eBin oIx (eVar 3) (eVar 4))) (tgN 2))) n i [d, some y, some (.int r), some (.ref p), w] C = .rt (.tup [y, .int ((m' : Nat) : Int), .int (r' + 1)]) C ∧ i + 1 ≤ m' ∧ m' ≤ 12 ∧ 0 ≤ r' ∧ r' < mlen m' ∧ r' + cum m' = r + cum (i + 1) := by
  intro k
  induction k with
  | zero =>
    intro n i r w hi hn h0 hr
    obtain rfl : n = 2 := by omega
    obtain rfl : i = 11 := by omega
    refine ⟨r, 12, ?_, by omega, by omega, h0, ?_, rfl⟩
    · have e := ix_lens 12 (by omega) (by omega) C p hp 11 (by omega)
      have lt : r < mlen 12 := by simp only [mlen, cum] at *; omega
      unfold loopF
      simp [nxRng, e, lt]
    · simp only [mlen, cum] at *; omega
  | succ k ih =>
    intro n i r w hi hn h0 hr
    obtain ⟨n, rfl⟩ : ∃ j, n = j + 1 := ⟨n - 1, by omega⟩
    have e := ix_lens (i + 1) (by omega) (by omega) C p hp i (by omega)
    by_cases lt : r < mlen (i + 1)
    · refine ⟨r, i + 1, ?_, by omega, by omega, h0, by omega, rfl⟩
      unfold loopF
      simp [nxRng, show i < 12 by omega, e, lt]
    · have cs := cum_succ (i + 1) (by omega) (by omega)
      obtain ⟨r', m', e1, h⟩ := ih n (i + 1) (r - mlen (i + 1)) (some (.int i)) (by omega) (by omega) (by omega) (by rw [cs]; omega)
      refine ⟨r', m', ?_, by omega, h.2.1, h.2.2.1, h.2.2.2.1, by rw [h.2.2.2.2, cs]; omega⟩
      conv => lhs; unfold loopF
      simp [nxRng, show i < 12 by omega, e, lt]
      simpa using e1
theorem run_law_date (d : Int) (C : Hs) (h0 : 0 ≤ d) (hs : d < 2 ^ 100) : F_law_date [.int d] C = .val (.tup [.int (yr d), .int (mo d), .int (nu d)]) (C ++ [.lst lens]) := by
  have hr := Int.emod_nonneg d (show (365 : Int) ≠ 0 by omega)
  have hl := Int.emod_lt_of_pos d (show (0 : Int) < 365 by omega)
  have hp : (C ++ [O.lst lens])[C.length]? = some (.lst lens) := by simp
  obtain ⟨r', m', e, h1, h2, h3, h4, h5⟩ := ldate_loop (some (.int d)) (.int (yr d)) C.length (C ++ [.lst lens]) hp 11 13 0 (d % 365) none (by omega) (by omega) hr (by simp only [cum]; omega)
  rw [show cum (0 + 1) = 0 from rfl] at h5
  have hm : m' = mo d := mon_uniq _ _ (by omega) h2 (by omega) (by omega) hr hl
  subst hm
  have hn : r' + 1 = nu d := by unfold nu; omega
  have hc : CDivX d 365 := cdiv_of (b := 9) (by omega) (by decide) (by omega)
  have hy : d / 365 = yr d := rfl
  have hb : (yr d).natAbs < 2 ^ 100 := by unfold yr; omega
  have hcm : CMulX 365 (yr d) := cm (j := 9) (k := 100) (by decide) hb (by omega) (by omega)
  have hrest : d - 365 * yr d = d % 365 := by unfold yr; omega
  simp [F_law_date, fnF_ap, m_law_date, show InR 12 from inR_of (by omega) (by omega), hc, Int.fdiv_eq_ediv_of_nonneg, hy, hcm, hrest, run_lengths, e, hn]
/-! ## numbers of days -/
def isC (c : Str) : Prop := c = "fixed" ∨ c = "thirty" ∨ c = "plain"
def nOf (c : Str) (d : Int) : Rat := if c = "fixed" then Rat.divInt d 365 else if c = "thirty" then Rat.divInt (360 * yr d + 30 * mo d + (if 30 < nu d then 30 else nu d)) 360 else Rat.divInt ((12 * yr d + mo d) * mlen (mo d) + nu d - 1) (12 * mlen (mo d))
def okD (d : Int) : Prop := 0 ≤ d ∧ d < 2 ^ 30
theorem yr_bd {d : Int} (h : okD d) : 0 ≤ yr d ∧ yr d < 2 ^ 30 := by unfold okD at h; unfold yr; omega
theorem run_number (c : Str) (d : Int) (C : Hs) (hc : isC c) (h : okD d) : F_number [.str c, .int d] C = .val (fr (nOf c d)) C := by
  have hy := yr_bd h
  have hm := mo_rng d
  have hn := nu_rng d
  have hl := mlen_pos (mo d) (by omega) (by omega)
  have d1 := run_fraction d 365 C (by omega) (Nat.lt_of_lt_of_le (m := 2 ^ 9) (by decide) (pow_le (by omega)))
  have hd := run_date d C h.1
  have c1 : CMulX 360 (yr d) := cm (j := 9) (k := 30) (by decide) (by omega) (by omega) (by omega)
  have c2 : CMulX 30 (mo d) := cm (j := 9) (k := 30) (by decide) (by omega) (by omega) (by omega)
  have c3 : CMulX 12 (yr d) := cm (j := 9) (k := 30) (by decide) (by omega) (by omega) (by omega)
  have c4 : CMulX (12 * yr d + mo d) (mlen (mo d)) := cm (j := 40) (k := 30) (by omega) (by omega) (by omega) (by omega)
  have c5 : CMulX 12 (mlen (mo d)) := cm (j := 40) (k := 30) (by omega) (by omega) (by omega) (by omega)
  have d2 := run_fraction (360 * yr d + 30 * mo d + (if 30 < nu d then 30 else nu d)) 360 C (by omega) (Nat.lt_of_lt_of_le (m := 2 ^ 9) (by decide) (pow_le (by omega)))
  have d3 := run_fraction ((12 * yr d + mo d) * mlen (mo d) + nu d - 1) (12 * mlen (mo d)) C (by omega) (Nat.lt_of_lt_of_le (m := 2 ^ 9) (by omega) (pow_le (by omega)))
  have hml : F_month_length [.int (mo d)] C = .val (.int (mlen (mo d))) C := by
    simp [F_month_length, fnF_ap, m_month_length, show (1 : Int) ≤ mo d by omega, show (mo d : Int) ≤ 12 by omega, ix_months (mo d) hm.1 hm.2]
  rcases hc with rfl | rfl | rfl
  · simp (decide := true) [F_number, fnF_ap, m_number, d1, nOf]
  · simp (decide := true) [F_number, fnF_ap, m_number, hd, d2, nOf, c1, c2]
  · simp (decide := true) [F_number, fnF_ap, m_number, hd, d3, nOf, c3, c4, c5, hml]
theorem plain_eq (a b l n : Int) (hl : l ≠ 0) : Rat.divInt (12 * a + b) 12 + Rat.divInt (n - 1) (12 * l) = Rat.divInt ((12 * a + b) * l + n - 1) (12 * l) := by
  have n1 : (12 : Int) * l ≠ 0 := by omega
  rw [Rat.divInt_add_divInt _ _ (by omega) n1, Rat.divInt_eq_divInt_iff (by omega) n1]
  grind
theorem run_law_number (c : Str) (d : Int) (C : Hs) (hc : isC c) (h : okD d) : ∃ E, F_law_number [.str c, .int d] C = .val (fr (nOf c d)) (C ++ E) := by
  have hy := yr_bd h
  have hm := mo_rng d
  have hn := nu_rng d
  have hl := mlen_pos (mo d) (by omega) (by omega)
  have d1 := run_lowest d 365 C (by omega) (Nat.lt_of_lt_of_le (m := 2 ^ 9) (by decide) (pow_le (by omega)))
  have hd := run_law_date d C h.1 (by have := h.2; omega)
  have c1 : CMulX 360 (yr d) := cm (j := 9) (k := 30) (by decide) (by omega) (by omega) (by omega)
  have c2 : CMulX 30 (mo d) := cm (j := 9) (k := 30) (by decide) (by omega) (by omega) (by omega)
  have c3 : CMulX 12 (yr d) := cm (j := 9) (k := 30) (by decide) (by omega) (by omega) (by omega)
  have c5 : CMulX 12 (mlen (mo d)) := cm (j := 40) (k := 30) (by omega) (by omega) (by omega) (by omega)
  have d2 := run_lowest (360 * yr d + 30 * mo d + (if 30 < nu d then 30 else nu d)) 360 (C ++ [.lst lens]) (by omega) (Nat.lt_of_lt_of_le (m := 2 ^ 9) (by decide) (pow_le (by omega)))
  rcases hc with rfl | rfl | rfl
  · exact ⟨[], by simp (decide := true) [F_law_number, fnF_ap, m_law_number, d1, nOf]⟩
  · exact ⟨[.lst lens], by simp (decide := true) [F_law_number, fnF_ap, m_law_number, hd, d2, nOf, c1, c2]⟩
  · refine ⟨[.lst lens, .lst lens], ?_⟩
    have e1 := run_lowest (12 * yr d + mo d) 12 (C ++ [.lst lens, .lst lens]) (by omega) (Nat.lt_of_lt_of_le (m := 2 ^ 9) (by decide) (pow_le (by omega)))
    have e2 := run_lowest (nu d - 1) (12 * mlen (mo d)) (C ++ [.lst lens, .lst lens]) (by omega) (Nat.lt_of_lt_of_le (m := 2 ^ 9) (by omega) (pow_le (by omega)))
    have e3 := run_law_plus (j := 50) (Rat.divInt (12 * yr d + mo d) 12) (Rat.divInt (nu d - 1) (12 * mlen (mo d))) (C ++ [.lst lens, .lst lens]) (sm_divInt (by omega) (by omega) (by omega)) (sm_divInt (by omega) (by omega) (by omega)) (by omega)
    have e4 := ix_lens (mo d) hm.1 hm.2 (C ++ [.lst lens, .lst lens]) (C.length + 1) (by simp) ((mo d : Int) - 1) rfl
    have e5 : Rat.divInt (12 * yr d + mo d) 12 + Rat.divInt (nu d - 1) (12 * mlen (mo d)) = nOf "plain" d := by
      have n1 : (12 : Int) * mlen (mo d) ≠ 0 := by omega
      simp only [nOf]
      rw [if_neg (by decide), if_neg (by decide)]
      exact plain_eq _ _ _ _ (by omega)
    rw [← e5]
    simp (decide := true) [F_law_number, fnF_ap, m_law_number, hd, run_lengths, e1, e2, e3, e4, c3, c5]
end Lw
namespace Lw
open PySem PySem.Spec PyProof.Rows L2 Mp
theorem sm_nOf (c : Str) (d : Int) (h : okD d) : Sm 50 (nOf c d) := by
  have hy := yr_bd h
  have hm := mo_rng d
  have hn := nu_rng d
  have hl := mlen_pos (mo d) (by omega) (by omega)
  have hd := h.2
  have hd0 := h.1
  have c4 := natAbs_mul_lt (a := 12 * yr d + mo d) (b := mlen (mo d)) (j := 40) (k := 5) (by omega) (by omega)
  unfold nOf
  split
  · exact sm_divInt (by omega) (by omega) (by omega)
  · split
    · exact sm_divInt (by omega) (by omega) (by omega)
    · exact sm_divInt (by omega) (by omega) (by omega)
theorem count_in (c : Str) (C : Hs) (hc : isC c) : oNotIn (.str c) c_COUNTS C = .val (.bl false) C := by
  rcases hc with rfl | rfl | rfl <;> simp (decide := true) [oNotIn, oInP, c_COUNTS, toPy_tup, allSome, PyData.eqv]
theorem run_part (c : Str) (s e : Int) (C : Hs) (hc : isC c) (hs : okD s) (he : okD e) (l : s ≤ e) : F_part [.str c, .int s, .int e] C = .val (fr (nOf c e - nOf c s)) C := by
  have m := run_minus (nOf c e) (nOf c s) C (sm_nOf c e he) (sm_nOf c s hs) (by omega)
  have := hs.1
  simp [F_part, fnF_ap, m_part, count_in c C hc, run_number c _ C hc hs, run_number c _ C hc he, m, show ¬ s < 0 by omega, show ¬ e < s by omega]
theorem run_law_part (c : Str) (s e : Int) (C : Hs) (hc : isC c) (hs : okD s) (he : okD e) : ∃ E, F_law_part [.str c, .int s, .int e] C = .val (fr (nOf c e - nOf c s)) (C ++ E) := by
  obtain ⟨E1, h1⟩ := run_law_number c e C hc he
  obtain ⟨E2, h2⟩ := run_law_number c s (C ++ E1) hc hs
  have m := run_law_minus (nOf c e) (nOf c s) (C ++ (E1 ++ E2)) (sm_nOf c e he) (sm_nOf c s hs) (by omega)
  refine ⟨E1 ++ E2, ?_⟩
  simp [F_law_part, fnF_ap, m_law_part, h1, h2, m]
theorem run_interest (p r : Rat) (c : Str) (s e : Int) (C : Hs) (hp : Sm 50 p) (hr : Sm 50 r) (hc : isC c) (hs : okD s) (he : okD e) (l : s ≤ e) :
    F_interest [fr p, fr r, .str c, .int s, .int e] C = .val (fr (p * r * (nOf c e - nOf c s))) C := by
  have m := run_times p r C hp hr (by omega)
  have m2 := run_times (p * r) (nOf c e - nOf c s) C ((hp.mul hr).mono (by omega)) (((sm_nOf c e he).sub (sm_nOf c s hs)).mono (k := 50 + 50 + 1) (by omega) |>.mono (by omega)) (j := 50 + 50 + 1) (by omega)
  simp [F_interest, fnF_ap, m_interest, run_part c s e C hc hs he l, m, m2]
/-! ## the draws -/
structure St (C : Hs) (s : Nat) (k : Nat) : Prop where
  ex : ∃ (sc : Nat) (ns : List Int) (p b h l : Int), sc < s ∧ C[s]? = some (.lst [.ref sc, .int p, .int b, .int h, .int l]) ∧ C[sc]? = some (.lst (ns.map D.int)) ∧ (∀ z ∈ ns, z.natAbs < 2 ^ 1048576) ∧ 0 ≤ p ∧ p ≤ k ∧ 0 ≤ b ∧ b.natAbs < 2 ^ 1048576 ∧ 0 ≤ h ∧ h < 2147483647
theorem oIx_set {C : Hs} {s : Nat} {ds : List D} {k : Int} (h : s < C.length) : oIx (.ref s) (.int k) (C.set s (.lst ds)) = match L2.atI ds k with | some d => .val d (C.set s (.lst ds)) | none => .bad := oIx_ref (by simp [h])
theorem setL_set {C : Hs} {s : Nat} {ds : List D} {k : Nat} {d : D} (h : s < C.length) (hk : k < ds.length) : setL (.ref s) (.int k) d (C.set s (.lst ds)) = .val () (C.set s (.lst (ds.set k d))) := by
  rw [setL_ref (xs := ds) (by simp [h]) hk, List.set_set]
theorem draw_run (C : Hs) (s sc : Nat) (ns : List Int) (p b h l m : Int) (ls : s < C.length) (hsc : sc < s) (e2 : C[sc]? = some (.lst (ns.map D.int))) (p0 : 0 ≤ p) (pk : p < 1000000) (h0 : 0 ≤ h) (hh : h < 2147483647) (hz : ∀ z ∈ ns, z.natAbs < 2 ^ 1048576) (m0 : 0 < m) (hm : m < 2 ^ 60) :
    ∃ v p' b' h' l', F_law_draw [.ref s, .int m] (C.set s (.lst [.ref sc, .int p, .int b, .int h, .int l])) = .val (.int v) (C.set s (.lst [.ref sc, .int p', .int b', .int h', .int l'])) ∧
     0 ≤ v ∧ v < m ∧ p ≤ p' ∧ p' ≤ p + 1 ∧ (0 ≤ b → b.natAbs < 2 ^ 1048576 → 0 ≤ b' ∧ b'.natAbs < 2 ^ 1048576) ∧ 0 ≤ h' ∧ h' < 2147483647 := by
  have cd : ∀ z, CDivX z m := fun z => cdiv_of (b := 60) (by omega) (by omega) (by omega)
  have cd3 : ∀ z, CDivX z 3 := fun z => cdiv_of (b := 60) (by omega) (by omega) (by omega)
  have fd : ∀ z : Int, z.fdiv m = z / m := fun z => Int.fdiv_eq_ediv_of_nonneg _ (by omega)
  have fm : ∀ z : Int, z.fmod m = z % m := fun z => Int.fmod_eq_emod_of_nonneg _ (by omega)
  have i0 := fun x1 x2 x3 x4 x5 k => oIx_set (C := C) (s := s) (ds := [x1, x2, x3, x4, x5]) (k := k) ls
  have t1 := fun x1 x2 x3 x4 x5 d => setL_set (C := C) (s := s) (ds := [x1, x2, x3, x4, x5]) (d := d) (k := 1) ls (by simp)
  have t2 := fun x1 x2 x3 x4 x5 d => setL_set (C := C) (s := s) (ds := [x1, x2, x3, x4, x5]) (d := d) (k := 2) ls (by simp)
  have t3 := fun x1 x2 x3 x4 x5 d => setL_set (C := C) (s := s) (ds := [x1, x2, x3, x4, x5]) (d := d) (k := 3) ls (by simp)
  have t4 := fun x1 x2 x3 x4 x5 d => setL_set (C := C) (s := s) (ds := [x1, x2, x3, x4, x5]) (d := d) (k := 4) ls (by simp)
  have g2 : ∀ x, (C.set s (.lst x))[sc]? = some (.lst (ns.map D.int)) := fun x => by rw [List.getElem?_set_ne (by omega), e2]
  have hm0 : m ≠ 0 := by omega
  simp at t1 t2 t3 t4
  by_cases c1 : 0 < l ∧ 0 < b
  · refine ⟨b % m, p, b / m, h, l - 1, ?_, Int.emod_nonneg _ hm0, Int.emod_lt_of_pos _ m0, by omega, by omega, fun x y => ⟨Int.ediv_nonneg x (by omega), Nat.lt_of_le_of_lt (Int.natAbs_ediv_le_natAbs _ _) y⟩, h0, hh⟩
    simp [F_law_draw, fnF_ap, m_law_draw, i0, c1.1, c1.2, fd, fm, cd, hm0, t2, t4]
  · obtain ⟨cell, hcell, hb⟩ : ∃ cell : Int, (cell = if p < (ns.length : Int) then ns.getD p.toNat 0 else h + 7919 * p) ∧ cell.natAbs < 2 ^ 1048576 := by
      refine ⟨_, rfl, ?_⟩
      split
      · by_cases lt : p.toNat < ns.length
        · have := hz ns[p.toNat] (List.getElem_mem lt)
          simpa [List.getD, lt] using this
        · omega
      · have : (h + 7919 * p).natAbs < 2 ^ 100 := by omega
        exact Nat.lt_trans this (pow_lt (by omega))
    have key : F_law_draw [.ref s, .int m] (C.set s (.lst [.ref sc, .int p, .int b, .int h, .int l])) = if 1000000000000000000 ≤ cell then .val (.int (cell % m)) (C.set s (.lst [.ref sc, .int (p + 1), .int (cell / m), .int h, .int 60])) else
        .val (.int (((cell * 48271 + (p + 1) * 69621 + h) % 2147483647 * 16807 + (cell * 48271 + (p + 1) * 69621 + h) % 2147483647 * ((cell * 48271 + (p + 1) * 69621 + h) % 2147483647) + 11) % 2147483629 / 3 % m)) (C.set s (.lst [.ref sc, .int (p + 1), .int b, .int (((cell * 48271 + (p + 1) * 69621 + h) % 2147483647 * 16807 + (cell * 48271 + (p + 1) * 69621 + h) % 2147483647 * ((cell * 48271 + (p + 1) * 69621 + h) % 2147483647) + 11) % 2147483629), .int l])) := by
      have q1 : CMulX 7919 p := cm (j := 40) (k := 40) (by decide) (by omega) (by omega) (by omega)
      have q2 : CMulX cell 48271 := cmul_of (a := 1048576) (b := 40) hb (by decide) (by omega)
      have q3 : CMulX (p + 1) 69621 := cm (j := 40) (k := 40) (by omega) (by decide) (by omega) (by omega)
      have fr1 := Int.emod_nonneg (cell * 48271 + (p + 1) * 69621 + h) (show (2147483647 : Int) ≠ 0 by omega)
      have fr2 := Int.emod_lt_of_pos (cell * 48271 + (p + 1) * 69621 + h) (show (0 : Int) < 2147483647 by omega)
      generalize hF : (cell * 48271 + (p + 1) * 69621 + h) % 2147483647 = F at *
      have q4 : CMulX F 16807 := cm (j := 40) (k := 40) (by omega) (by decide) (by omega) (by omega)
      have q5 : CMulX F F := cm (j := 40) (k := 40) (by omega) (by omega) (by omega) (by omega)
      have q6 : CPow 10 18 := by decide
      have n1 : ∀ z : Int, z.fmod 2147483647 = z % 2147483647 := fun z => Int.fmod_eq_emod_of_nonneg _ (by omega)
      have n2 : ∀ z : Int, z.fmod 2147483629 = z % 2147483629 := fun z => Int.fmod_eq_emod_of_nonneg _ (by omega)
      have n3 : ∀ z : Int, z.fdiv 3 = z / 3 := fun z => Int.fdiv_eq_ediv_of_nonneg _ (by omega)
      have fl := fun x => fLen_ref (g2 x)
      have c0 : (decide (0 < l) && decide (0 < b)) = false := by
        rw [Bool.eq_false_iff]; intro h; simp at h; exact c1 h
      by_cases lt : p < (ns.length : Int)
      · obtain ⟨P, rfl⟩ := Int.eq_ofNat_of_zero_le p0
        have lt' : P < ns.length := by omega
        rw [if_pos lt] at hcell
        have ii : ∀ x, oIx (.ref sc) (.int (P : Int)) (C.set s (.lst x)) = .val (.int cell) (C.set s (.lst x)) := fun x => by
          rw [oIx_ref (g2 x), atI_ofNat]
          simp [lt', hcell, List.getD]
        by_cases g : 1000000000000000000 ≤ cell
        · by_cases l1 : 0 < l
          · have b1 : ¬ 0 < b := fun h => c1 ⟨l1, h⟩
            simp [F_law_draw, fnF_ap, m_law_draw, i0, l1, b1, q1, fl, lt', ii, t1, t2, t3, t4, q6, g, fd, fm, cd, hm0]
          · simp [F_law_draw, fnF_ap, m_law_draw, i0, l1, q1, fl, lt', ii, t1, t2, t3, t4, q6, g, fd, fm, cd, hm0]
        · by_cases l1 : 0 < l
          · have b1 : ¬ 0 < b := fun h => c1 ⟨l1, h⟩
            simp [F_law_draw, fnF_ap, m_law_draw, i0, l1, b1, q1, fl, lt', ii, t1, t2, t3, t4, q6, g, fd, fm, cd, hm0, q2, q3, n1, n2, n3, hF, q4, q5, cd3]
          · simp [F_law_draw, fnF_ap, m_law_draw, i0, l1, q1, fl, lt', ii, t1, t2, t3, t4, q6, g, fd, fm, cd, hm0, q2, q3, n1, n2, n3, hF, q4, q5, cd3]
      · rw [if_neg lt] at hcell
        have g : ¬ 1000000000000000000 ≤ cell := by omega
        subst hcell
        by_cases l1 : 0 < l
        · have b1 : ¬ 0 < b := fun h => c1 ⟨l1, h⟩
          simp [F_law_draw, fnF_ap, m_law_draw, i0, l1, b1, q1, fl, lt, t1, t2, t3, t4, q6, g, fd, fm, cd, hm0, q2, q3, n1, n2, n3, hF, q4, q5, cd3]
        · simp [F_law_draw, fnF_ap, m_law_draw, i0, l1, q1, fl, lt, t1, t2, t3, t4, q6, g, fd, fm, cd, hm0, q2, q3, n1, n2, n3, hF, q4, q5, cd3]
    rw [key]
    have hB : (cell / m).natAbs < 2 ^ 1048576 := Nat.lt_of_le_of_lt (Int.natAbs_ediv_le_natAbs _ _) hb
    by_cases g : 1000000000000000000 ≤ cell
    · rw [if_pos g]
      exact ⟨_, _, _, _, _, rfl, Int.emod_nonneg _ hm0, Int.emod_lt_of_pos _ m0, by omega, by omega, fun _ _ => ⟨Int.ediv_nonneg (by omega) (by omega), hB⟩, h0, hh⟩
    · rw [if_neg g]
      exact ⟨_, _, _, _, _, rfl, Int.emod_nonneg _ hm0, Int.emod_lt_of_pos _ m0, by omega, by omega, fun x y => ⟨x, y⟩, Int.emod_nonneg _ (by omega), Int.lt_trans (Int.emod_lt_of_pos _ (by omega)) (by omega)⟩
end Lw
namespace Lw
open PySem PySem.Spec PyProof.Rows L2 Mp
theorem St.app {C E : Hs} {s k : Nat} (S : St C s k) : St (C ++ E) s k := by
  obtain ⟨sc, ns, p, b, h, l, hsc, e1, e2, r⟩ := S.ex
  exact ⟨sc, ns, p, b, h, l, hsc, app_some e1, app_some e2, r⟩
theorem run_draw (C : Hs) (s k : Nat) (m : Int) (S : St C s k) (hk : k < 999999) (h0 : 0 < m) (hm : m < 2 ^ 60) :
    ∃ v C', F_law_draw [.ref s, .int m] C = .val (.int v) C' ∧ 0 ≤ v ∧ v < m ∧ St C' s (k + 1) ∧ C'.length = C.length ∧ ∀ i, i ≠ s → C'[i]? = C[i]? := by
  obtain ⟨sc, ns, p, b, h, l, hsc, e1, e2, hz, p0, pk, b0, bb, h0', hh⟩ := S.ex
  have ls : s < C.length := lt_of_some e1
  obtain ⟨v, p', b', h', l', e, v0, vm, pp, pp', bb', hh0, hh'⟩ := draw_run C s sc ns p b h l m ls hsc e2 p0 (by omega) h0' hh hz h0 hm
  rw [set_same e1] at e
  have := bb' b0 bb
  refine ⟨v, _, e, v0, vm, ⟨sc, ns, p', b', h', l', hsc, by simp [ls], ?_, hz, by omega, by omega, this.1, this.2, hh0, hh'⟩, by simp, fun i hi => ?_⟩
  · rw [List.getElem?_set_ne (by omega), e2]
  · rw [List.getElem?_set_ne (by omega)]
/-! ## days of the schedule -/
theorem run_day_of (y : Int) (m : Nat) (n : Int) (C : Hs) (y0 : 0 ≤ y) (hy : y < 2 ^ 40) (h1 : 1 ≤ m) (h2 : m ≤ 12) (n1 : 1 ≤ n) (n2 : n ≤ mlen m) :
    ∃ E, F_day_of [.int y, .int m, .int n] C = .val (.int (365 * y + cum m + n - 1)) (C ++ E) := by
  have c1 : CMulX 365 y := cm (j := 9) (k := 40) (by decide) (by omega) (by omega) (by omega)
  have im := ix_months m h1 h2 C
  have sl : ∃ ds ns, oSlice c_MONTHS none (some ((m : Int) - 1)) C = .val (.tup ds) C ∧ intsOf ds = some ns ∧ ns.sum = cum m := by
    revert m; intro m h1 h2 _ _
    exact c12 (P := fun m => ∃ ds ns, oSlice c_MONTHS none (some ((m : Int) - 1)) C = .val (.tup ds) C ∧ intsOf ds = some ns ∧ ns.sum = cum m) (by
      intro j
      match j with
      | 0 => exact ⟨_, _, rfl, rfl, rfl⟩
      | 1 => exact ⟨_, _, rfl, rfl, rfl⟩
      | 2 => exact ⟨_, _, rfl, rfl, rfl⟩
      | 3 => exact ⟨_, _, rfl, rfl, rfl⟩
      | 4 => exact ⟨_, _, rfl, rfl, rfl⟩
      | 5 => exact ⟨_, _, rfl, rfl, rfl⟩
      | 6 => exact ⟨_, _, rfl, rfl, rfl⟩
      | 7 => exact ⟨_, _, rfl, rfl, rfl⟩
      | 8 => exact ⟨_, _, rfl, rfl, rfl⟩
      | 9 => exact ⟨_, _, rfl, rfl, rfl⟩
      | 10 => exact ⟨_, _, rfl, rfl, rfl⟩
      | 11 => exact ⟨_, _, rfl, rfl, rfl⟩) m h1 h2
  obtain ⟨ds, ns, s1, s2, s3⟩ := sl
  refine ⟨[.lst ds], ?_⟩
  simp [F_day_of, fnF_ap, m_day_of, show ¬ y < 0 by omega, show (1 : Int) ≤ m by omega, show (m : Int) ≤ 12 by omega, im, n1, n2, c1, c_YEAR, s1, fSum, s2, s3]
/-- the day so many months later -/
def later (d t : Int) : Int := 365 * ((12 * yr d + mo d - 1 + t) / 12) + cum ((12 * yr d + mo d - 1 + t) % 12 + 1).toNat + (if mlen ((12 * yr d + mo d - 1 + t) % 12 + 1).toNat < nu d then mlen ((12 * yr d + mo d - 1 + t) % 12 + 1).toNat else nu d) - 1
theorem run_add_months (d t : Int) (C : Hs) (hd : okD d) (t0 : 0 ≤ t) (ht : t < 2 ^ 30) : ∃ E, F_add_months [.int d, .int t] C = .val (.int (later d t)) (C ++ E) := by
  have hy := yr_bd hd
  have hm := mo_rng d
  have hn := nu_rng d
  have h12 := Int.emod_nonneg (12 * yr d + mo d - 1 + t) (show (12 : Int) ≠ 0 by omega)
  have l12 := Int.emod_lt_of_pos (12 * yr d + mo d - 1 + t) (show (0 : Int) < 12 by omega)
  unfold later
  have hq : 0 ≤ (12 * yr d + mo d - 1 + t) / 12 ∧ (12 * yr d + mo d - 1 + t) / 12 < 2 ^ 40 := by omega
  generalize hT : 12 * yr d + mo d - 1 + t = T at *
  obtain ⟨M, hM⟩ : ∃ M : Nat, T % 12 + 1 = (M : Int) := ⟨(T % 12 + 1).toNat, by omega⟩
  have hM1 : 1 ≤ M ∧ M ≤ 12 := by omega
  have l1 := mlen_pos M hM1.1 hM1.2
  have l2 := mlen_pos (mo d) hm.1 hm.2
  have cd : CDivX T 12 := cdiv_of (b := 60) (by omega) (by omega) (by omega)
  obtain ⟨E, hE⟩ := run_day_of (T / 12) M (if mlen M < nu d then mlen M else nu d) C hq.1 hq.2 hM1.1 hM1.2 (by split <;> omega) (by split <;> omega)
  have c1 : CMulX 12 (yr d) := cm (j := 9) (k := 40) (by decide) (by omega) (by omega) (by omega)
  refine ⟨E, ?_⟩
  have e12 : T.fmod 12 = T % 12 := Int.fmod_eq_emod_of_nonneg _ (by omega)
  have f12 : T.fdiv 12 = T / 12 := Int.fdiv_eq_ediv_of_nonneg _ (by omega)
  have im := ix_months M hM1.1 hM1.2 C
  simp [F_add_months, fnF_ap, m_add_months, run_date d C hd.1, show ¬ t < 0 by omega, c1, hT, e12, f12, hM, cd, im, hE]
theorem later_zero (d : Int) : later d 0 = d := by
  have hm := mo_rng d
  have hn := nu_rng d
  have e := day_eq d
  unfold later
  have a : (12 * yr d + mo d - 1 + 0) % 12 + 1 = mo d := by omega
  have b : (12 * yr d + mo d - 1 + 0) / 12 = yr d := by omega
  rw [a, b, Int.toNat_natCast, if_neg (by omega)]
  omega
def base (u : Int) : Int := 365 * (u / 12) + cum (u % 12 + 1).toNat
theorem base_succ (u : Int) : base (u + 1) = base u + mlen (u % 12 + 1).toNat := by
  have h0 := Int.emod_nonneg u (show (12 : Int) ≠ 0 by omega)
  have h1 := Int.emod_lt_of_pos u (show (0 : Int) < 12 by omega)
  have cs := cum_succ (u % 12 + 1).toNat (by omega) (by omega)
  unfold base
  by_cases h : u % 12 = 11
  · have a : (u + 1) % 12 = 0 := by omega
    have b : (u + 1) / 12 = u / 12 + 1 := by omega
    rw [a, b, h]
    simp only [show ((11 : Int) + 1).toNat = 12 from rfl, show ((0 : Int) + 1).toNat = 1 from rfl, cum, mlen]
    omega
  · have a : (u + 1) % 12 = u % 12 + 1 := by omega
    have b : (u + 1) / 12 = u / 12 := by omega
    rw [a, b, show (u % 12 + 1 + 1).toNat = (u % 12 + 1).toNat + 1 by omega, cs]
    omega
theorem base_mono (u : Int) (k : Nat) : base u ≤ base (u + k) := by
  induction k with
  | zero => simp
  | succ k ih =>
    have h0 := Int.emod_nonneg (u + k) (show (12 : Int) ≠ 0 by omega)
    have h1 := Int.emod_lt_of_pos (u + k) (show (0 : Int) < 12 by omega)
    have e := base_succ (u + k)
    have := mlen_pos ((u + k) % 12 + 1).toNat (by omega) (by omega)
    rw [show u + ((k + 1 : Nat) : Int) = u + k + 1 by omega, e]; omega
theorem later_lt (d s t : Int) (h : s < t) : later d s < later d t := by
  have hn := nu_rng d
  have b1 : later d s < base (12 * yr d + mo d - 1 + s + 1) := by
    rw [base_succ]; unfold later base; split <;> omega
  have b2 : base (12 * yr d + mo d - 1 + t) ≤ later d t := by
    have h0 := Int.emod_nonneg (12 * yr d + mo d - 1 + t) (show (12 : Int) ≠ 0 by omega)
    have h1 := Int.emod_lt_of_pos (12 * yr d + mo d - 1 + t) (show (0 : Int) < 12 by omega)
    have := mlen_pos ((12 * yr d + mo d - 1 + t) % 12 + 1).toNat (by omega) (by omega)
    unfold later base; split <;> omega
  have b3 := base_mono (12 * yr d + mo d - 1 + s + 1) (t - s - 1).toNat
  rw [show 12 * yr d + mo d - 1 + s + 1 + ((t - s - 1).toNat : Int) = 12 * yr d + mo d - 1 + t by omega] at b3
  omega
/-- the days, one after the other -/
def Asc (ds : List Int) : Prop := ds.Pairwise (· < ·)
theorem sched_loop (S N M : Int) (p : Nat) (hS : okD S) (hN : N < 2 ^ 29) (hM1 : 1 ≤ M) (hM : M ≤ 100) : ∀ (k n : Nat) (t : Int) (ds : List Int) (C : Hs), k < n → N ≤ later S t + k → 0 ≤ t → t + 100 * k < 2 ^ 29 →
    ds.length + k < 2 ^ 20 → C[p]? = some (.lst (ds.map D.int)) → (∀ z ∈ ds, S ≤ z ∧ z < later S t ∧ z < N) → S ≤ later S t → Asc ds →
    ∃ (es : List Int) (t' : Int) (E : Hs) (x : Option D), loopW (toB (eBin oLt (eVar 5) (eVar 1))) (sSeq (sDrop (eMeth "list" mAppend (eVar 3) (lCons (eVar 5) lNil)))
  (sSeq (sAug 4 oAddI (eVar 2))
  (sAsg (eFn F_add_months [] (lCons (eVar 0) (lCons (eVar 4) lNil))) (tgN 5)))) n [some (.int S), some (.int N), some (.int M), some (.ref p), some (.int t), some (.int (later S t))] C =
      .nx [some (.int S), some (.int N), some (.int M), some (.ref p), some (.int t'), x] (C.set p (.lst ((ds ++ es).map D.int)) ++ E) ∧ Asc (ds ++ es) ∧ (∀ z ∈ ds ++ es, S ≤ z ∧ z < N) ∧ (later S t < N → ∃ r, es = later S t :: r) ∧ es.length ≤ k := by
  intro k
  induction k with
  | zero =>
    intro n t ds C hn hk t0 ht hl hC hz hs ha
    obtain ⟨n, rfl⟩ : ∃ j, n = j + 1 := ⟨n - 1, by omega⟩
    refine ⟨[], t, [], some (.int (later S t)), ?_, by simpa using ha, fun z hz' => ?_, fun h => by omega, by simp⟩
    · have lt : ¬ later S t < N := by omega
      unfold loopW
      simp [lt, set_same hC]
    · have := hz z (by simpa using hz'); omega
  | succ k ih =>
    intro n t ds C hn hk t0 ht hl hC hz hs ha
    obtain ⟨n, rfl⟩ : ∃ j, n = j + 1 := ⟨n - 1, by omega⟩
    by_cases lt : later S t < N
    · have hlt := later_lt S t (t + M) (by omega)
      obtain ⟨E1, hE1⟩ := run_add_months S (t + M) (C.set p (.lst ((ds ++ [later S t]).map D.int))) hS (by omega) (by omega)
      have lp : p < C.length := lt_of_some hC
      obtain ⟨es, t', E, x, e, a1, a2, a3, a4⟩ := ih n (t + M) (ds ++ [later S t]) (C.set p (.lst ((ds ++ [later S t]).map D.int)) ++ E1) (by omega) (by omega) (by omega) (by omega) (by simp; omega)
        (app_some (by simp [lp])) (fun z hz' => by
          rcases List.mem_append.mp hz' with h | h
          · have := hz z h; omega
          · have : z = later S t := by simpa using h
            omega) (by omega) (by
          unfold Asc
          rw [List.pairwise_append]
          exact ⟨ha, by simp, fun a h b h' => by
            have : b = later S t := by simpa using h'
            have := hz a h
            omega⟩)
      refine ⟨later S t :: es, t', E1 ++ E, x, ?_, by simpa using a1, by simpa using a2, fun _ => ⟨es, rfl⟩, by simp; omega⟩
      have rc := isRecv_ref hC
      have ap := mAppend_ref (d := .int (later S t)) hC (by simp; omega)
      rw [show (ds.map D.int ++ [D.int (later S t)]) = (ds ++ [later S t]).map D.int by simp] at ap
      conv => lhs; unfold loopW
      simp [lt, rc, -List.map_append, ap, hE1]
      rw [e]
      congr 1
      rw [List.set_append_left (h := by simp; exact lp), List.set_set]
      simp
    · refine ⟨[], t, [], some (.int (later S t)), ?_, by simpa using ha, fun z hz' => ?_, fun h => by omega, by simp⟩
      · unfold loopW
        simp [lt, set_same hC]
      · have := hz z (by simpa using hz'); omega
end Lw
namespace Lw
open PySem PySem.Spec PyProof.Rows L2 Mp
structure Days (S N : Int) (ds : List Int) : Prop where
  asc : Asc ds
  hd : ∃ r, ds = S :: r
  lst : ∃ r, ds = r ++ [N]
  bd : ∀ z ∈ ds, S ≤ z ∧ z ≤ N
  two : 2 ≤ ds.length
  len : ds.length ≤ 100000
theorem run_schedule (S N M : Int) (C : Hs) (hS : okD S) (h1 : S < N) (hN : N < 2 ^ 29) (h2 : N ≤ S + 50000) (hM1 : 1 ≤ M) (hM : M ≤ 100) :
    ∃ ds E, F_schedule [.int S, .int N, .int M] C = .val (.ref C.length) (C ++ (.lst (ds.map D.int) :: E)) ∧ Days S N ds := by
  obtain ⟨es, t', E, x, e, a1, a2, a3, a4⟩ := sched_loop S N M C.length hS hN hM1 hM 50000 fuelW 0 [] (C ++ [.lst []]) (by decide) (by rw [later_zero]; omega) (by omega) (by omega) (by simp) (by simp) (by simp) (by rw [later_zero]; omega) List.Pairwise.nil
  rw [later_zero] at e a3
  obtain ⟨r, hr⟩ := a3 h1
  simp only [List.nil_append] at e a1 a2
  rw [show (C ++ [O.lst []]).set C.length (.lst (es.map D.int)) = C ++ [.lst (es.map D.int)] by simp] at e
  have hc : (C ++ [O.lst (es.map D.int)] ++ E)[C.length]? = some (.lst (es.map D.int)) := by simp
  have rc := isRecv_ref hc
  have ap := mAppend_ref (d := .int N) hc (by simp; omega)
  refine ⟨es ++ [N], E, ?_, ?_, ⟨r ++ [N], by rw [hr]; rfl⟩, ⟨es, rfl⟩, ?_, ?_, ?_⟩
  · have h0 := hS.1
    rw [show F_schedule = fnF 3 6 m_schedule from rfl]
    refine fnF_rt rfl ?_
    unfold m_schedule
    refine stIf0 (P := fun r => r = _) (C' := C) (by simp [show ¬ S < 0 by omega, show ¬ N ≤ S by omega, show ¬ M < 1 by omega]) ?_
    refine stA (P := fun r => r = _) (v := .ref C.length) (C' := C ++ [.lst []]) (by simp) ?_
    refine stA (P := fun r => r = _) (v := .int 0) (C' := C ++ [.lst []]) (by simp) ?_
    refine stA (P := fun r => r = _) (v := .int S) (C' := C ++ [.lst []]) (by simp) ?_
    refine stS (P := fun r => r = _) (s' := _) (C' := _) (by rw [sWhile_ap]; exact e) ?_
    rw [List.append_assoc, List.singleton_append] at rc ap
    simp [rc, ap]
  · unfold Asc
    rw [List.pairwise_append]
    exact ⟨a1, by simp, fun a h b h' => by
      have : b = N := by simpa using h'
      have := a2 a h
      omega⟩
  · intro z hz
    rcases List.mem_append.mp hz with h | h
    · have := a2 z h; omega
    · have : z = N := by simpa using h
      omega
  · rw [hr]; simp
  · simp; omega
/-! ## the interests -/
def row (p r : Rat) (c : Str) (ds : List Int) (i : Nat) : D := fr (p * r * (nOf c (ds.getD (i + 1) 0) - nOf c (ds.getD i 0)))
theorem oIx_ints {C : Hs} {q i : Nat} {ds : List Int} {k : Int} (h : C[q]? = some (.lst (ds.map D.int))) (hi : i < ds.length) (hk : k = (i : Int)) : oIx (.ref q) (.int k) C = .val (.int (ds.getD i 0)) C := by
  subst hk
  rw [oIx_ref h, atI_ofNat]
  simp [hi, List.getD]
theorem asc_get {ds : List Int} (h : Asc ds) {i : Nat} (hi : i + 1 < ds.length) : ds.getD i 0 < ds.getD (i + 1) 0 := by
  have := List.pairwise_iff_getElem.mp h i (i + 1) (by omega) hi (by omega)
  simpa [List.getD, hi, show i < ds.length by omega] using this
theorem getD_mem {ds : List Int} {i : Nat} (hi : i < ds.length) : ds.getD i 0 ∈ ds := by
  simp [List.getD, hi]
theorem run_interests (p r : Rat) (c : Str) (ds : List Int) (q : Nat) (C : Hs) (hp : Sm 50 p) (hr : Sm 50 r) (hc : isC c) (hq : C[q]? = some (.lst (ds.map D.int))) (ha : Asc ds) (hd : ∀ z ∈ ds, okD z) (hl : ds.length ≤ 200000) :
    ∃ E, F_interests [fr p, fr r, .str c, .ref q] C = .val (.ref C.length) (C ++ (.lst ((List.range (ds.length - 1)).map (row p r c ds)) :: E)) := by
  have lq := lt_of_some hq
  obtain ⟨E, hE⟩ := lc_rng (K := ds.length - 1) (dst := C.length) (t := tgN 4) (me := eFn F_interest [] (lCons (eVar 0) (lCons (eVar 1) (lCons (eVar 2) (lCons (eBin oIx (eVar 3) (eVar 4)) (lCons (eBin oIx (eVar 3) (eBin oAdd (eVar 4) (eC (.int 1)))) lNil))))))
    (s := [some (fr p), some (fr r), some (.str c), some (.ref q), none]) (row p r c ds) (fun C => C[q]? = some (.lst (ds.map D.int))) (fun C E h => app_some h)
    (fun C' x h => by rw [List.getElem?_set_ne (by omega), h]) (fun i C' hi h => by
      have i1 := oIx_ints (i := i) (k := i) h (by omega) rfl
      have i2 := oIx_ints (i := i + 1) (k := i + 1) h (by omega) (by omega)
      have l := asc_get ha (i := i) (by omega)
      have g := run_interest p r c (ds.getD i 0) (ds.getD (i + 1) 0) C' hp hr hc (hd _ (getD_mem (by omega))) (hd _ (getD_mem (by omega))) (by omega)
      refine ⟨_, [], rfl, ?_⟩
      simp [-List.getD_eq_getElem?_getD, i1, i2, g, row]) (ds.length - 1) 0 (ds.length - 1 + 1) [] (C ++ [.lst []]) (by omega) (by omega) (by simp) (app_some hq) (by simp; omega)
  refine ⟨E, ?_⟩
  rw [show (C ++ [O.lst []]).set C.length (.lst ([] ++ (List.range' 0 (ds.length - 1)).map (row p r c ds))) = C ++ [.lst ((List.range' 0 (ds.length - 1)).map (row p r c ds))] by simp] at hE
  have hf := fLen_ref hq
  have ht : ((ds.length : Int) - 1).toNat = ds.length - 1 := by omega
  simp [F_interests, fnF_ap, m_interests, hf, ht, show InR ((ds.length : Int) - 1) from inR_of (by omega) (by omega)]
  rw [hE]
  simp [List.range_eq_range']
end Lw
namespace Lw
open PySem PySem.Spec PyProof.Rows L2 Mp
theorem run_interests_nil (p r : Rat) (c : Str) (q : Nat) (C : Hs) (hq : C[q]? = some (.lst [])) : F_interests [fr p, fr r, .str c, .ref q] C = .val (.ref C.length) (C ++ [.lst []]) := by
  have hf := fLen_ref hq
  simp [F_interests, fnF_ap, m_interests, hf, show InR (-1) from inR_of (by omega) (by omega), show InR 0 from inR_of (by omega) (by omega)]
  unfold loopC
  simp [nxRng]
theorem run_interests_one (p r : Rat) (c : Str) (q : Nat) (x : D) (C : Hs) (hq : C[q]? = some (.lst [x])) : F_interests [fr p, fr r, .str c, .ref q] C = .val (.ref C.length) (C ++ [.lst []]) := by
  have hf := fLen_ref hq
  simp [F_interests, fnF_ap, m_interests, hf, show InR (-1) from inR_of (by omega) (by omega), show InR 0 from inR_of (by omega) (by omega)]
  unfold loopC
  simp [nxRng]
theorem run_interests_word (p r : Rat) (ds : List Int) (q : Nat) (C : Hs) (hp : Sm 50 p) (hr : Sm 50 r) (hq : C[q]? = some (.lst (ds.map D.int))) (h2 : 2 ≤ ds.length) (hl : ds.length ≤ 200000) :
    ∃ E, F_interests [fr p, fr r, .str "other", .ref q] C = .exc ⟨"InvalidWord", [("word", .str "other")]⟩ (C ++ E) := by
  have lq := lt_of_some hq
  obtain ⟨acc, E, hE⟩ := lc_rng_exc (K := ds.length - 1) (dst := C.length) (J := 0) (t := tgN 4) (x := ⟨"InvalidWord", [("word", .str "other")]⟩) (me := eFn F_interest [] (lCons (eVar 0) (lCons (eVar 1) (lCons (eVar 2) (lCons (eBin oIx (eVar 3) (eVar 4)) (lCons (eBin oIx (eVar 3) (eBin oAdd (eVar 4) (eC (.int 1)))) lNil))))))
    (s := [some (fr p), some (fr r), some (.str "other"), some (.ref q), none]) (fun _ => .non) (fun C => C[q]? = some (.lst (ds.map D.int))) (fun C E h => app_some h)
    (fun C' x h => by rw [List.getElem?_set_ne (by omega), h]) (by omega) (fun i C' hi h => by omega) (fun C' h => by
      have i1 := oIx_ints (i := 0) (k := 0) h (by omega) rfl
      have i2 := oIx_ints (i := 1) (k := 1) h (by omega) rfl
      have nc : oNotIn (.str "other") c_COUNTS C' = .val (.bl true) C' := by simp (decide := true) [oNotIn, oInP, c_COUNTS, toPy_tup, allSome, PyData.eqv]
      have g := run_times p r C' hp hr (by omega)
      refine ⟨_, [], rfl, ?_⟩
      simp [-List.getD_eq_getElem?_getD, i1, i2, F_interest, fnF_ap, m_interest, g, F_part, m_part, nc]) 0 0 (ds.length - 1 + 1) [] (C ++ [.lst []]) (by omega) (by omega) (by simp) (app_some hq) (by simp)
  rw [show (C ++ [O.lst []]).set C.length (.lst acc) = C ++ [.lst acc] by simp] at hE
  refine ⟨.lst acc :: E, ?_⟩
  have hf := fLen_ref hq
  have ht : ((ds.length : Int) - 1).toNat = ds.length - 1 := by omega
  simp [F_interests, fnF_ap, m_interests, hf, ht, show InR ((ds.length : Int) - 1) from inR_of (by omega) (by omega)]
  simp only [hE, stm_exc, List.append_assoc, List.singleton_append]
theorem run_interests_day (p r : Rat) (c : Str) (ds : List Int) (z : Int) (q : Nat) (C : Hs) (hp : Sm 50 p) (hr : Sm 50 r) (hc : isC c) (hq : C[q]? = some (.lst ((ds ++ [z]).map D.int))) (ha : Asc ds) (hd : ∀ z ∈ ds, okD z) (hl : ds.length ≤ 200000) (h1 : 1 ≤ ds.length) (hz : ∀ y ∈ ds, z < y) :
    ∃ E, F_interests [fr p, fr r, .str c, .ref q] C = .exc ⟨"InvalidDay", []⟩ (C ++ E) := by
  have lq := lt_of_some hq
  have gl : ∀ i, i < ds.length → (ds ++ [z]).getD i 0 = ds.getD i 0 := fun i hi => by simp [List.getD, List.getElem?_append_left, hi]
  have gz : (ds ++ [z]).getD ds.length 0 = z := by simp [List.getD]
  obtain ⟨acc, E, hE⟩ := lc_rng_exc (K := ds.length) (dst := C.length) (J := ds.length - 1) (t := tgN 4) (x := ⟨"InvalidDay", []⟩) (me := eFn F_interest [] (lCons (eVar 0) (lCons (eVar 1) (lCons (eVar 2) (lCons (eBin oIx (eVar 3) (eVar 4)) (lCons (eBin oIx (eVar 3) (eBin oAdd (eVar 4) (eC (.int 1)))) lNil))))))
    (s := [some (fr p), some (fr r), some (.str c), some (.ref q), none]) (row p r c ds) (fun C => C[q]? = some (.lst ((ds ++ [z]).map D.int))) (fun C E h => app_some h)
    (fun C' x h => by rw [List.getElem?_set_ne (by omega), h]) (by omega) (fun i C' hi h => by
      have i1 := oIx_ints (i := i) (k := i) h (by simp; omega) rfl
      have i2 := oIx_ints (i := i + 1) (k := i + 1) h (by simp; omega) (by omega)
      rw [gl _ (by omega)] at i1 i2
      have l := asc_get ha (i := i) (by omega)
      have g := run_interest p r c (ds.getD i 0) (ds.getD (i + 1) 0) C' hp hr hc (hd _ (getD_mem (by omega))) (hd _ (getD_mem (by omega))) (by omega)
      refine ⟨_, [], rfl, ?_⟩
      simp [-List.getD_eq_getElem?_getD, i1, i2, g, row]) (fun C' h => by
      have i1 := oIx_ints (i := ds.length - 1) (k := ((ds.length - 1 : Nat) : Int)) h (by simp; omega) rfl
      have i2 := oIx_ints (i := ds.length) (k := ((ds.length - 1 : Nat) : Int) + 1) h (by simp) (by omega)
      rw [gl _ (by omega)] at i1
      rw [gz] at i2
      have lt := hz _ (getD_mem (ds := ds) (i := ds.length - 1) (by omega))
      have o := hd _ (getD_mem (ds := ds) (i := ds.length - 1) (by omega))
      have g := run_times p r C' hp hr (by omega)
      refine ⟨_, [], rfl, ?_⟩
      simp [-List.getD_eq_getElem?_getD, i1, i2, F_interest, fnF_ap, m_interest, g, F_part, m_part, count_in c C' hc, lt, show ¬ ds.getD (ds.length - 1) 0 < 0 by have := o.1; omega]) (ds.length - 1) 0 (ds.length + 1) [] (C ++ [.lst []]) (by omega) (by omega) (by simp) (app_some hq) (by simp; omega)
  rw [show (C ++ [O.lst []]).set C.length (.lst acc) = C ++ [.lst acc] by simp] at hE
  refine ⟨.lst acc :: E, ?_⟩
  have hf := fLen_ref hq
  have ht : ((((ds ++ [z]).map D.int).length : Int) - 1).toNat = ds.length := by simp
  simp at hf
  simp [F_interests, fnF_ap, m_interests, hf, show InR (ds.length : Int) from inR_of (by omega) (by omega)]
  simp only [hE, stm_exc, List.append_assoc, List.singleton_append]
/-! ## the due list -/
theorem run_due (p r : Rat) (c : Str) (ds : List Int) (q : Nat) (s : Sl) (C : Hs) (hp : Sm 50 p) (hr : Sm 50 r) (hc : isC c) (hq : C[q]? = some (.lst (ds.map D.int))) (hd : ∀ z ∈ ds, okD z) (hl : ds.length ≤ 200000)
    (s8 : s[8]? = some (some (fr (p * r)))) (s4 : s[4]? = some (some (.str c))) (s5 : s[5]? = some (some (.ref q))) (sl : 15 < s.length) :
    ∃ E, eLc (iRng (lCons (eBin oSub (eCall fLen (lCons (eVar 5) lNil)) (eC (.int 1))) lNil)) (tgN 15) bYes (eFn F_law_times [] (lCons (eVar 8) (lCons (eFn F_law_part [] (lCons (eVar 4) (lCons (eBin oIx (eVar 5) (eVar 15)) (lCons (eBin oIx (eVar 5) (eBin oAdd (eVar 15) (eC (.int 1)))) lNil)))) lNil))) [15] s C
      = .val (.ref C.length) (C ++ (.lst ((List.range (ds.length - 1)).map (row p r c ds)) :: E)) := by
  have lq := lt_of_some hq
  obtain ⟨E, hE⟩ := lc_rng (K := ds.length - 1) (dst := C.length) (t := tgN 15) (me := eFn F_law_times [] (lCons (eVar 8) (lCons (eFn F_law_part [] (lCons (eVar 4) (lCons (eBin oIx (eVar 5) (eVar 15)) (lCons (eBin oIx (eVar 5) (eBin oAdd (eVar 15) (eC (.int 1)))) lNil)))) lNil)))
    (s := s.set 15 none) (row p r c ds) (fun C => C[q]? = some (.lst (ds.map D.int))) (fun C E h => app_some h)
    (fun C' x h => by rw [List.getElem?_set_ne (by omega), h]) (fun i C' hi h => by
      have i1 := oIx_ints (i := i) (k := i) h (by omega) rfl
      have i2 := oIx_ints (i := i + 1) (k := i + 1) h (by omega) (by omega)
      obtain ⟨E, g⟩ := run_law_part c (ds.getD i 0) (ds.getD (i + 1) 0) C' hc (hd _ (getD_mem (by omega))) (hd _ (getD_mem (by omega)))
      have m := run_law_times (j := 101) (p * r) (nOf c (ds.getD (i + 1) 0) - nOf c (ds.getD i 0)) (C' ++ E) ((hp.mul hr).mono (by omega)) ((sm_nOf c _ (hd _ (getD_mem (by omega)))).sub (sm_nOf c _ (hd _ (getD_mem (by omega))))) (by omega)
      refine ⟨_, E, rfl, ?_⟩
      simp [-List.getD_eq_getElem?_getD, s8, s4, s5, sl, i1, i2, g, m, row]) (ds.length - 1) 0 (ds.length - 1 + 1) [] (C ++ [.lst []]) (by omega) (by omega) (by simp) (app_some hq) (by simp; omega)
  refine ⟨E, ?_⟩
  rw [show (C ++ [O.lst []]).set C.length (.lst ([] ++ (List.range' 0 (ds.length - 1)).map (row p r c ds))) = C ++ [.lst ((List.range' 0 (ds.length - 1)).map (row p r c ds))] by simp] at hE
  have hf := fLen_ref hq
  have ht : ((ds.length : Int) - 1).toNat = ds.length - 1 := by omega
  simp [hf, ht, s5, show InR ((ds.length : Int) - 1) from inR_of (by omega) (by omega)]
  rw [hE]
  simp [List.range_eq_range']
/-! ## the sum -/
theorem run_sum (p r : Rat) (c : Str) (ds : List Int) (a : Nat) (C : Hs) (hp : Sm 50 p) (hr : Sm 50 r) (hd : ∀ z ∈ ds, okD z) (h1 : 1 ≤ ds.length)
    (hq : C[a]? = some (.lst ((List.range (ds.length - 1)).map (row p r c ds)))) : ∀ (k i n : Nat) (s : Sl), i + k = ds.length - 1 → k < n → s[13]? = some (some (fr (p * r * (nOf c (ds.getD i 0) - nOf c (ds.getD 0 0))))) → 14 < s.length →
    ∃ w, loopF ⟨((List.range (ds.length - 1)).map (row p r c ds)).length + 1, nxSeq (.ref a)⟩ (tgN 14) (sAsg (eFn F_law_plus [] (lCons (eVar 13) (lCons (eVar 14) lNil))) (tgN 13)) n i s C
      = .nx ((s.set 14 w).set 13 (some (fr (p * r * (nOf c (ds.getD (ds.length - 1) 0) - nOf c (ds.getD 0 0)))))) C := by
  intro k
  induction k with
  | zero =>
    intro i n s hi hn h13 hl
    obtain ⟨n, rfl⟩ : ∃ j, n = j + 1 := ⟨n - 1, by omega⟩
    obtain rfl : i = ds.length - 1 := by omega
    refine ⟨s[14], ?_⟩
    unfold loopF
    have e1 : s.set 14 s[14] = s := by simp
    rw [e1, set_same h13]
    simp [nxSeq, items_ref hq]
  | succ k ih =>
    intro i n s hi hn h13 hl
    obtain ⟨n, rfl⟩ : ∃ j, n = j + 1 := ⟨n - 1, by omega⟩
    have o0 := sm_nOf c _ (hd _ (getD_mem (ds := ds) (i := 0) (by omega)))
    have o1 := sm_nOf c _ (hd _ (getD_mem (ds := ds) (i := i) (by omega)))
    have o2 := sm_nOf c _ (hd _ (getD_mem (ds := ds) (i := i + 1) (by omega)))
    have m := run_law_plus (p * r * (nOf c (ds.getD i 0) - nOf c (ds.getD 0 0))) (p * r * (nOf c (ds.getD (i + 1) 0) - nOf c (ds.getD i 0))) C ((hp.mul hr).mul (o1.sub o0)) ((hp.mul hr).mul (o2.sub o1)) (by omega)
    rw [show p * r * (nOf c (ds.getD i 0) - nOf c (ds.getD 0 0)) + p * r * (nOf c (ds.getD (i + 1) 0) - nOf c (ds.getD i 0)) = p * r * (nOf c (ds.getD (i + 1) 0) - nOf c (ds.getD 0 0)) by grind] at m
    obtain ⟨w, e⟩ := ih (i + 1) n ((s.set 14 (some (row p r c ds i))).set 13 (some (fr (p * r * (nOf c (ds.getD (i + 1) 0) - nOf c (ds.getD 0 0)))))) (by omega) (by omega) (by rw [List.getElem?_set_self (by simp; omega)]) (by simp; omega)
    refine ⟨w, ?_⟩
    conv => lhs; unfold loopF
    have hr : ((List.range (ds.length - 1)).map (row p r c ds))[i]? = some (row p r c ds i) := by simp [show i < ds.length - 1 by omega]
    simp only [nxSeq, items_ref hq, hr, tgN_ap]
    simp [-List.getD_eq_getElem?_getD, h13, hl, row, m]
    simp only [row] at e
    simp [-List.getD_eq_getElem?_getD] at e
    rw [e]
    congr 1
    rw [List.set_comm _ _ (by omega : (13 : Nat) ≠ 14), List.set_set, List.set_set]
end Lw
namespace Lw
open PySem PySem.Spec PyProof.Rows L2 Mp
theorem run_law_fraction (C : Hs) (s k : Nat) (S : St C s k) (hk : k < 1000) :
    ∃ x C', F_law_fraction [.ref s] C = .val (fr x) C' ∧ Sm 50 x ∧ St C' s (k + 2) ∧ C'.length = C.length ∧ ∀ i, i ≠ s → C'[i]? = C[i]? := by
  obtain ⟨v1, C1, e1, v10, v1l, S1, l1, f1⟩ := run_draw C s k 400 S (by omega) (by omega) (by omega)
  obtain ⟨v2, C2, e2, v20, v2l, S2, l2, f2⟩ := run_draw C1 s (k + 1) 30 S1 (by omega) (by omega) (by omega)
  have g := run_lowest (v1 - 100) (1 + v2) C2 (by omega) (Nat.lt_of_lt_of_le (m := 2 ^ 9) (by omega) (pow_le (by omega)))
  refine ⟨_, C2, ?_, sm_divInt (p := v1 - 100) (q := 1 + v2) (by omega) (by omega) (by omega), S2, by omega, fun i hi => by rw [f2 i hi, f1 i hi]⟩
  simp [F_law_fraction, fnF_ap, m_law_fraction, e1, e2, g]
theorem days_ok {S N : Int} {ds : List Int} (D : Days S N ds) (hS : okD S) (hN : N < 2 ^ 29) : ∀ z ∈ ds, okD z := fun z hz => by
  have := D.bd z hz
  have := hS.1
  exact ⟨by omega, by omega⟩
theorem toPy_fr (x : Rat) (n : Nat) (C : Hs) : toPy (n + 1) C (fr x) = some (.tuple [.int x.num, .int x.den]) := by
  simp [fr, toPy_tup, allSome]
theorem toPy_rows {C : Hs} {a : Nat} {xs : List Nat} {f : Nat → Rat} (h : C[a]? = some (.lst (xs.map fun i => fr (f i)))) : toPy 64 C (.ref a) = some (.list (xs.map fun i => .tuple [.int (f i).num, .int (f i).den])) := by
  rw [toPy_ref h, allSome_map (k := fun i => .tuple [.int (f i).num, .int (f i).den]) (fun i => toPy_fr _ _ _)]; rfl
theorem toPy_days {C : Hs} {a : Nat} {xs : List Int} (h : C[a]? = some (.lst (xs.map D.int))) : toPy 64 C (.ref a) = some (.list (xs.map .int)) := by
  rw [toPy_ref h, allSome_map (k := .int) (fun i => toPy_int)]; rfl
theorem oNe_fr (x : Rat) (C : Hs) : oNe (fr x) (fr x) C = .val (.bl false) C := oNe_same (toPy_fr x 63 C) (toPy_fr x 63 C)
theorem fr_zero : D.tup [.int 0, .int 1] = fr 0 := rfl
theorem sub_wd : sub "InvalidWord" "InvalidDay" = some false := by decide +kernel
theorem sub_ww : sub "InvalidWord" "InvalidWord" = some true := by decide +kernel
theorem sub_dd : sub "InvalidDay" "InvalidDay" = some true := by decide +kernel
theorem refuses_word (p r : Rat) (ds : List Int) (q a : Nat) (C : Hs) (hp : Sm 50 p) (hr : Sm 50 r) (hq : C[q]? = some (.lst (ds.map D.int))) (h2 : 2 ≤ ds.length) (hl : ds.length ≤ 200000) (ha : C[a]? = some (.lst [fr p, fr r, .str "other", .ref q])) :
    ∃ E, F_law_refuses [.fn 0, .ref a, .str "word"] C = .val (.bl true) (C ++ E) := by
  obtain ⟨E, e⟩ := run_interests_word p r ds q C hp hr hq h2 hl
  have fl := fLen_ref ha
  have i := fun k => oIx_ref (k := k) ha
  refine ⟨E, ?_⟩
  simp (decide := true) [F_law_refuses, fnF_ap, m_law_refuses, fl, i, eFnL, disp, e, sub_wd, sub_ww]
theorem refuses_day (p r : Rat) (c : Str) (ds : List Int) (z : Int) (q a : Nat) (C : Hs) (hp : Sm 50 p) (hr : Sm 50 r) (hc : isC c) (hq : C[q]? = some (.lst ((ds ++ [z]).map D.int))) (ha : Asc ds) (hd : ∀ z ∈ ds, okD z) (hl : ds.length ≤ 200000) (h1 : 1 ≤ ds.length) (hz : ∀ y ∈ ds, z < y) (hA : C[a]? = some (.lst [fr p, fr r, .str c, .ref q])) :
    ∃ E, F_law_refuses [.fn 0, .ref a, .str "day"] C = .val (.bl true) (C ++ E) := by
  obtain ⟨E, e⟩ := run_interests_day p r c ds z q C hp hr hc hq ha hd hl h1 hz
  have fl := fLen_ref hA
  have i := fun k => oIx_ref (k := k) hA
  refine ⟨E, ?_⟩
  simp (decide := true) [F_law_refuses, fnF_ap, m_law_refuses, fl, i, eFnL, disp, e, sub_dd]
theorem law_true (ns : List Int) (hn : ns.length ≤ 63) (hb : ∀ z ∈ ns, Builtin.Int.intBits z ≤ 1048576) : ∃ C, F_law [.ref 0] [.frz (ns.map D.int)] = .val (.bl true) C := by
  have hz : ∀ z ∈ ns, z.natAbs < 2 ^ 1048576 := fun z hz => by
    by_cases h0 : z = 0
    · subst h0; exact Nat.pow_pos (by decide)
    · have h1 := hb z hz
      unfold Builtin.Int.intBits at h1
      rw [if_neg (by simpa using h0)] at h1
      exact Nat.lt_of_lt_of_le Nat.lt_log2_self (pow_le h1)
  -- the state
  have e0 : F_law_state [.ref 0] [.frz (ns.map D.int)] = .val (.ref 2) [.frz (ns.map D.int), .lst (ns.map D.int), .lst [.ref 1, .int 0, .int 0, .int 1, .int 0]] := by
    simp [F_law_state, fnF_ap, m_law_state, fList_frz (C := [O.frz (ns.map D.int)]) (i := 0) rfl]
  have S0 : St [.frz (ns.map D.int), .lst (ns.map D.int), .lst [.ref 1, .int 0, .int 0, .int 1, .int 0]] 2 0 := ⟨1, ns, 0, 0, 1, 0, by omega, rfl, rfl, hz, by omega, by omega, by omega, Nat.pow_pos (by decide), by omega, by omega⟩
  obtain ⟨S, C1, e1, v10, v1l, S1, l1, f1⟩ := run_draw _ 2 0 40000 S0 (by omega) (by omega) (by omega)
  obtain ⟨v2, C2, e2, v20, v2l, S2, l2, f2⟩ := run_draw C1 2 1 900 S1 (by omega) (by omega) (by omega)
  obtain ⟨v3, C3, e3, v30, v3l, S3, l3, f3⟩ := run_draw (C2 ++ [.lst [.str "fixed", .str "thirty", .str "plain"]]) 2 2 3 S2.app (by omega) (by omega) (by omega)
  obtain ⟨v4, C4, e4, v40, v4l, S4, l4, f4⟩ := run_draw C3 2 3 7 S3 (by omega) (by omega) (by omega)
  simp only [List.length_cons, List.length_nil, List.length_append] at l1 l2 l3 l4
  have hS : okD S := ⟨by omega, by omega⟩
  obtain ⟨c, hc, ic⟩ : ∃ c, isC c ∧ ∀ C i, C[i]? = some (O.lst [D.str "fixed", .str "thirty", .str "plain"]) → oIx (.ref i) (.int v3) C = .val (.str c) C := by
    have : v3 = 0 ∨ v3 = 1 ∨ v3 = 2 := by omega
    rcases this with rfl | rfl | rfl
    · exact ⟨"fixed", .inl rfl, fun C i h => by rw [oIx_ref h]; simp⟩
    · exact ⟨"thirty", .inr (.inl rfl), fun C i h => by rw [oIx_ref h]; simp⟩
    · exact ⟨"plain", .inr (.inr rfl), fun C i h => by rw [oIx_ref h]; simp⟩
  have hcs : C3[C2.length]? = some (O.lst [D.str "fixed", .str "thirty", .str "plain"]) := by rw [f3 _ (by omega)]; simp
  obtain ⟨N, hN⟩ : ∃ N, N = S + 1 + v2 := ⟨_, rfl⟩
  obtain ⟨ds, E5, e5, D5⟩ := run_schedule S N (1 + v4) C4 hS (by omega) (by omega) (by omega) (by omega) (by omega)
  obtain ⟨C5, hC5⟩ : ∃ C, C = C4 ++ (.lst (ds.map D.int) :: E5) := ⟨_, rfl⟩
  rw [← hC5] at e5
  have S5 : St C5 2 4 := hC5 ▸ S4.app
  obtain ⟨x, C6, e6, sx, S6, l6, f6⟩ := run_law_fraction C5 2 4 S5 (by omega)
  obtain ⟨y, C7, e7, sy, S7, l7, f7⟩ := run_law_fraction C6 2 6 S6 (by omega)
  have q5 : C5[C4.length]? = some (.lst (ds.map D.int)) := by rw [hC5]; simp
  have q7 : C7[C4.length]? = some (.lst (ds.map D.int)) := by rw [f7 _ (by omega), f6 _ (by omega), q5]
  have e8 := run_law_times x y C7 sx sy (by omega)
  have okN : okD N := ⟨by omega, by omega⟩
  have e9 := run_interest x y c S N C7 sx sy hc hS okN (by omega)
  obtain ⟨E8, e10⟩ := run_law_part c S N C7 hc hS okN
  obtain ⟨C8, hC8⟩ : ∃ C, C = C7 ++ E8 := ⟨_, rfl⟩
  rw [← hC8] at e10
  have q8 : C8[C4.length]? = some (.lst (ds.map D.int)) := hC8 ▸ app_some q7
  have e11 := run_law_times (j := 101) (x * y) (nOf c N - nOf c S) C8 ((sx.mul sy).mono (by omega)) ((sm_nOf c N okN).sub (sm_nOf c S hS)) (by omega)
  have e12 := fList_ref q8
  obtain ⟨C9, hC9⟩ : ∃ C, C = C8 ++ [.lst (ds.map D.int)] := ⟨_, rfl⟩
  rw [← hC9] at e12
  have q9 : C9[C8.length]? = some (.lst (ds.map D.int)) := by rw [hC9]; simp
  have dok := days_ok D5 hS (by omega)
  have dl := D5.len
  have d2 := D5.two
  obtain ⟨E10, e13⟩ := run_interests x y c ds C8.length C9 sx sy hc q9 D5.asc dok (by omega)
  obtain ⟨C10, hC10⟩ : ∃ C, C = C9 ++ (O.lst ((List.range (ds.length - 1)).map (row x y c ds)) :: E10) := ⟨_, rfl⟩
  rw [← hC10] at e13
  have q10 : C10[C9.length]? = some (.lst ((List.range (ds.length - 1)).map (row x y c ds))) := by rw [hC10]; simp
  have g10 : C10[C8.length]? = some (.lst (ds.map D.int)) := hC10 ▸ app_some q9
  have p10 : C10[C4.length]? = some (.lst (ds.map D.int)) := by rw [hC10, hC9]; exact app_some (app_some q8)
  obtain ⟨E11, e14⟩ := run_due x y c ds C4.length [some (.ref 0), some (.ref 2), some (.int S), some (.int N), some (.str c), some (.ref C4.length), some (fr x), some (fr y), some (fr (x * y)), some (fr (x * y * (nOf c N - nOf c S))), some (.ref C8.length), some (.ref C9.length), none, none, none, none] C10 sx sy hc p10 dok (by omega) rfl rfl rfl (by simp)
  obtain ⟨C11, hC11⟩ : ∃ C, C = C10 ++ (O.lst ((List.range (ds.length - 1)).map (row x y c ds)) :: E11) := ⟨_, rfl⟩
  rw [← hC11] at e14
  have q11 : C11[C10.length]? = some (.lst ((List.range (ds.length - 1)).map (row x y c ds))) := by rw [hC11]; simp
  have r11 : C11[C9.length]? = some (.lst ((List.range (ds.length - 1)).map (row x y c ds))) := hC11 ▸ app_some q10
  have g11 : C11[C8.length]? = some (.lst (ds.map D.int)) := hC11 ▸ app_some g10
  have p11 : C11[C4.length]? = some (.lst (ds.map D.int)) := hC11 ▸ app_some p10
  have n1 : oNe (.ref C9.length) (.ref C10.length) C11 = .val (.bl false) C11 := oNe_same (toPy_rows (f := fun i => x * y * (nOf c (ds.getD (i + 1) 0) - nOf c (ds.getD i 0))) r11) (toPy_rows (f := fun i => x * y * (nOf c (ds.getD (i + 1) 0) - nOf c (ds.getD i 0))) q11)
  have n2 : oNe (.ref C8.length) (.ref C4.length) C11 = .val (.bl false) C11 := oNe_same (toPy_days g11) (toPy_days p11)
  have first : ds.getD 0 0 = S := by obtain ⟨r, hr⟩ := D5.hd; rw [hr]; rfl
  have last : ds.getD (ds.length - 1) 0 = N := by obtain ⟨r, hr⟩ := D5.lst; rw [hr]; simp
  have o11 := items_ref r11
  have is11 := fIsi_lst (T := "list") r11
  have e15 := run_sum x y c ds C9.length C11 sx sy dok (by omega) r11 (ds.length - 1) 0 (((List.range (ds.length - 1)).map (row x y c ds)).length + 1)
  suffices h : ∃ C, m_law [some (.ref 0), none, none, none, none, none, none, none, none, none, none, none, none, none, none, none] [.frz (ns.map D.int)] = .rt (.bl true) C by
    obtain ⟨C, h⟩ := h
    exact ⟨C, fnF_rt rfl h⟩
  unfold m_law
  refine stA (P := fun r => ∃ C, r = .rt (.bl true) C) (v := .ref 2) (C' := [.frz (ns.map D.int), .lst (ns.map D.int), .lst [.ref 1, .int 0, .int 0, .int 1, .int 0]]) (by simp [e0]) ?_
  refine stA (P := fun r => ∃ C, r = .rt (.bl true) C) (v := .int S) (C' := C1) (by simp [e1]) ?_
  refine stA (P := fun r => ∃ C, r = .rt (.bl true) C) (v := .int N) (C' := C2) (by simp [e2, hN]) ?_
  refine stA (P := fun r => ∃ C, r = .rt (.bl true) C) (v := .str c) (C' := C3) (by simp [e3, ic _ _ hcs]) ?_
  refine stA (P := fun r => ∃ C, r = .rt (.bl true) C) (v := .ref C4.length) (C' := C5) (by simp [e4, e5]) ?_
  refine stA (P := fun r => ∃ C, r = .rt (.bl true) C) (v := fr x) (C' := C6) (by simp [e6]) ?_
  refine stA (P := fun r => ∃ C, r = .rt (.bl true) C) (v := fr y) (C' := C7) (by simp [e7]) ?_
  refine stA (P := fun r => ∃ C, r = .rt (.bl true) C) (v := fr (x * y)) (C' := C7) (by simp [e8]) ?_
  refine stA (P := fun r => ∃ C, r = .rt (.bl true) C) (v := fr (x * y * (nOf c N - nOf c S))) (C' := C7) (by simp [e9]) ?_
  refine stIf0 (P := fun r => ∃ C, r = .rt (.bl true) C) (C' := C8) (by simp [e10, e11, oNe_fr]) ?_
  refine stA (P := fun r => ∃ C, r = .rt (.bl true) C) (v := .ref C8.length) (C' := C9) (by simp [e12]) ?_
  refine stA (P := fun r => ∃ C, r = .rt (.bl true) C) (v := .ref C9.length) (C' := C10) (by simp [e13]) ?_
  refine stA (P := fun r => ∃ C, r = .rt (.bl true) C) (v := .ref C10.length) (C' := C11) e14 ?_
  refine stIf0 (P := fun r => ∃ C, r = .rt (.bl true) C) (C' := C11) (by simp [is11, n1, n2, isTy, truth]) ?_
  refine stA (P := fun r => ∃ C, r = .rt (.bl true) C) (v := fr 0) (C' := C11) (by simp [fr_zero]) ?_
  have z0 : fr 0 = fr (x * y * (nOf c (ds.getD 0 0) - nOf c (ds.getD 0 0))) := by rw [show nOf c (ds.getD 0 0) - nOf c (ds.getD 0 0) = 0 by grind, Rat.mul_zero]
  obtain ⟨w, e15⟩ := e15 [some (.ref 0), some (.ref 2), some (.int S), some (.int N), some (.str c), some (.ref C4.length), some (fr x), some (fr y), some (fr (x * y)), some (fr (x * y * (nOf c N - nOf c S))), some (.ref C8.length), some (.ref C9.length), some (.ref C10.length), some (fr 0), none, none] (by omega) (by simp) (by rw [← z0]; rfl) (by simp)
  rw [first, last] at e15
  refine stS (P := fun r => ∃ C, r = .rt (.bl true) C) (s' := [some (.ref 0), some (.ref 2), some (.int S), some (.int N), some (.str c), some (.ref C4.length), some (fr x), some (fr y), some (fr (x * y)), some (fr (x * y * (nOf c N - nOf c S))), some (.ref C8.length), some (.ref C9.length), some (.ref C10.length), some (fr (x * y * (nOf c N - nOf c S))), w, none]) (C' := C11) (by
    simp only [List.set_cons_zero, List.set_cons_succ] at e15
    simp only [sFor_ap, iSeq_ap, eVar_ap, List.set_cons_zero, List.set_cons_succ, List.getElem?_cons_zero, List.getElem?_cons_succ, bind_val, o11, stm_val, e15]) ?_
  have a1 := run_interests_nil x y c C11.length (C11 ++ [.lst []]) (by simp)
  have m1 : oNe (.ref (C11.length + 1)) (.ref (C11.length + 2)) (C11 ++ [.lst [], .lst [], .lst []]) = .val (.bl false) (C11 ++ [.lst [], .lst [], .lst []]) := oNe_same (p := .list []) (toPy_ref (ds := []) (by simp)) (toPy_ref (ds := []) (by simp))
  have a2 := run_interests_one x y c (C11.length + 3) (.int 5) (C11 ++ [.lst [], .lst [], .lst [], .lst [.int 5]]) (by simp)
  have m2 : oNe (.ref (C11.length + 4)) (.ref (C11.length + 5)) (C11 ++ [.lst [], .lst [], .lst [], .lst [.int 5], .lst [], .lst []]) = .val (.bl false) (C11 ++ [.lst [], .lst [], .lst [], .lst [.int 5], .lst [], .lst []]) := oNe_same (p := .list []) (toPy_ref (ds := []) (by simp)) (toPy_ref (ds := []) (by simp))
  obtain ⟨C13, hC13⟩ : ∃ C, C = C11 ++ [O.lst [], .lst [], .lst [], .lst [.int 5], .lst [], .lst []] := ⟨_, rfl⟩
  simp at a1 a2
  rw [← hC13] at m2
  refine stIf0 (P := fun r => ∃ C, r = .rt (.bl true) C) (C' := C13) (by
    simp [oNe_fr, a1, m1, a2, ← hC13]
    simp [m2]) ?_
  have p13 : C13[C4.length]? = some (.lst (ds.map D.int)) := by rw [hC13]; exact app_some p11
  obtain ⟨E14, e16⟩ := refuses_word x y ds C4.length C13.length (C13 ++ [.lst [fr x, fr y, .str "other", .ref C4.length]]) sx sy (app_some p13) (by omega) (by omega) (by simp)
  obtain ⟨C14, hC14⟩ : ∃ C, C = C13 ++ [O.lst [fr x, fr y, .str "other", .ref C4.length]] ++ E14 := ⟨_, rfl⟩
  rw [← hC14] at e16
  refine stIf0 (P := fun r => ∃ C, r = .rt (.bl true) C) (C' := C14) (by simp [e16, truth]) ?_
  have p14 : C14[C4.length]? = some (.lst (ds.map D.int)) := by rw [hC14]; exact app_some (app_some p13)
  obtain ⟨E15, e17⟩ := refuses_day x y c ds (S - 1) (C14.length + 1) (C14.length + 2) (C14 ++ [.lst [.int (S - 1)], .lst ((ds ++ [S - 1]).map D.int), .lst [fr x, fr y, .str c, .ref (C14.length + 1)]]) sx sy hc (by simp) D5.asc dok (by omega) (by omega) (fun z hz => by have := D5.bd z hz; omega) (by simp)
  have ad : oAdd (.ref C4.length) (.ref C14.length) (C14 ++ [.lst [.int (S - 1)]]) = .val (.ref (C14.length + 1)) (C14 ++ [.lst [.int (S - 1)], .lst ((ds ++ [S - 1]).map D.int)]) := by
    have h1 := app_some (E := [.lst [.int (S - 1)]]) p14
    have h2 : (C14 ++ [O.lst [D.int (S - 1)]])[C14.length]? = some (.lst [.int (S - 1)]) := by simp
    simp only [oAdd, h1, h2]
    rw [if_pos (by rw [sizeLine_eq]; simp; omega)]
    simp
  refine ⟨C14 ++ [.lst [.int (S - 1)], .lst ((ds ++ [S - 1]).map D.int), .lst [fr x, fr y, .str c, .ref (C14.length + 1)]] ++ E15, ?_⟩
  simp [-List.map_append] at e17
  simp [ad, -List.map_append, e17]
end Lw
namespace Lw
open PySem PySem.Spec PyProof.Rows L2 Mp
theorem mkTxt {K : PySem.W.Frag} {h : Heap} {mg : Str → Option Value} (X : K.In h) (G0 : h.Ns mainGlobals mg) {f_month_length f_date_of f_day_of f_add_months f_schedule f_fraction f_plus f_opposite f_minus f_times f_number f_part f_interest f_interests f_law_state f_law_draw f_law_lowest f_law_plus f_law_minus f_law_times f_law_lengths f_law_date f_law_number f_law_part f_law_refuses f_law_fraction f_law E_ConsolError E_DivisionByZero E_InvalidDay E_InvalidWord I_InvalidWord : Addr}
    {oc_month_length dc_month_length pm_month_length cd_month_length ct_month_length kV_month_length : Value} {od_month_length an_month_length : Option Addr} {sl_month_length : Array (Option Value)}
    {oc_date_of dc_date_of pm_date_of cd_date_of ct_date_of kV_date_of : Value} {od_date_of an_date_of : Option Addr} {sl_date_of : Array (Option Value)}
    {oc_day_of dc_day_of pm_day_of cd_day_of ct_day_of kV_day_of : Value} {od_day_of an_day_of : Option Addr} {sl_day_of : Array (Option Value)}
    {oc_add_months dc_add_months pm_add_months cd_add_months ct_add_months kV_add_months : Value} {od_add_months an_add_months : Option Addr} {sl_add_months : Array (Option Value)}
    {oc_schedule dc_schedule pm_schedule cd_schedule ct_schedule kV_schedule : Value} {od_schedule an_schedule : Option Addr} {sl_schedule : Array (Option Value)}
    {oc_fraction dc_fraction pm_fraction cd_fraction ct_fraction kV_fraction : Value} {od_fraction an_fraction : Option Addr} {sl_fraction : Array (Option Value)}
    {dT_fraction : Addr} {oT_fraction : Obj} {its_fraction : List Value} {nT_fraction : Nat}
    {oc_plus dc_plus pm_plus cd_plus ct_plus kV_plus : Value} {od_plus an_plus : Option Addr} {sl_plus : Array (Option Value)}
    {oc_opposite dc_opposite pm_opposite cd_opposite ct_opposite kV_opposite : Value} {od_opposite an_opposite : Option Addr} {sl_opposite : Array (Option Value)}
    {oc_minus dc_minus pm_minus cd_minus ct_minus kV_minus : Value} {od_minus an_minus : Option Addr} {sl_minus : Array (Option Value)}
    {oc_times dc_times pm_times cd_times ct_times kV_times : Value} {od_times an_times : Option Addr} {sl_times : Array (Option Value)}
    {oc_number dc_number pm_number cd_number ct_number kV_number : Value} {od_number an_number : Option Addr} {sl_number : Array (Option Value)}
    {oc_part dc_part pm_part cd_part ct_part kV_part : Value} {od_part an_part : Option Addr} {sl_part : Array (Option Value)}
    {oc_interest dc_interest pm_interest cd_interest ct_interest kV_interest : Value} {od_interest an_interest : Option Addr} {sl_interest : Array (Option Value)}
    {oc_interests dc_interests pm_interests cd_interests ct_interests kV_interests : Value} {od_interests an_interests : Option Addr} {sl_interests : Array (Option Value)}
    {oc_law_state dc_law_state pm_law_state cd_law_state ct_law_state kV_law_state : Value} {od_law_state an_law_state : Option Addr} {sl_law_state : Array (Option Value)}
    {oc_law_draw dc_law_draw pm_law_draw cd_law_draw ct_law_draw kV_law_draw : Value} {od_law_draw an_law_draw : Option Addr} {sl_law_draw : Array (Option Value)}
    {oc_law_lowest dc_law_lowest pm_law_lowest cd_law_lowest ct_law_lowest kV_law_lowest : Value} {od_law_lowest an_law_lowest : Option Addr} {sl_law_lowest : Array (Option Value)}
    {oc_law_plus dc_law_plus pm_law_plus cd_law_plus ct_law_plus kV_law_plus : Value} {od_law_plus an_law_plus : Option Addr} {sl_law_plus : Array (Option Value)}
    {oc_law_minus dc_law_minus pm_law_minus cd_law_minus ct_law_minus kV_law_minus : Value} {od_law_minus an_law_minus : Option Addr} {sl_law_minus : Array (Option Value)}
    {oc_law_times dc_law_times pm_law_times cd_law_times ct_law_times kV_law_times : Value} {od_law_times an_law_times : Option Addr} {sl_law_times : Array (Option Value)}
    {oc_law_lengths dc_law_lengths pm_law_lengths cd_law_lengths ct_law_lengths kV_law_lengths : Value} {od_law_lengths an_law_lengths : Option Addr} {sl_law_lengths : Array (Option Value)}
    {oc_law_date dc_law_date pm_law_date cd_law_date ct_law_date kV_law_date : Value} {od_law_date an_law_date : Option Addr} {sl_law_date : Array (Option Value)}
    {oc_law_number dc_law_number pm_law_number cd_law_number ct_law_number kV_law_number : Value} {od_law_number an_law_number : Option Addr} {sl_law_number : Array (Option Value)}
    {oc_law_part dc_law_part pm_law_part cd_law_part ct_law_part kV_law_part : Value} {od_law_part an_law_part : Option Addr} {sl_law_part : Array (Option Value)}
    {oc_law_refuses dc_law_refuses pm_law_refuses cd_law_refuses ct_law_refuses kV_law_refuses : Value} {od_law_refuses an_law_refuses : Option Addr} {sl_law_refuses : Array (Option Value)}
    {oc_law_fraction dc_law_fraction pm_law_fraction cd_law_fraction ct_law_fraction kV_law_fraction : Value} {od_law_fraction an_law_fraction : Option Addr} {sl_law_fraction : Array (Option Value)}
    {oc_law dc_law pm_law cd_law ct_law kV_law : Value} {od_law an_law : Option Addr} {sl_law : Array (Option Value)}
    {ta_MONTHS : Addr} {tod_MONTHS : Option Addr} {tit_MONTHS : Array Value} {tn_MONTHS : Nat} {tsl_MONTHS : Array (Option Value)}
    {t_YEAR : Tok}
    {ta_COUNTS : Addr} {tod_COUNTS : Option Addr} {tit_COUNTS : Array Value} {tn_COUNTS : Nat} {tsl_COUNTS : Array (Option Value)}
    {xn_InvalidWord xq_InvalidWord : Str} {xN_InvalidWord : Addr} {xb_InvalidWord xm_InvalidWord xs_InvalidWord : List Value} {xt_InvalidWord : List Str} {xa_InvalidWord : Bool} {xc_InvalidWord : Option Bool} {xd_InvalidWord : Option Addr} {x0_InvalidWord x1_InvalidWord x2_InvalidWord x3_InvalidWord x5_InvalidWord : Option Value}
    {ioc_InvalidWord ikV_InvalidWord idc_InvalidWord ipm_InvalidWord icd_InvalidWord ict_InvalidWord : Value} {iod_InvalidWord ian_InvalidWord : Option Addr} {isl_InvalidWord : Array (Option Value)}
    (a_month_length : PySem.W.nsIn K mainGlobals "month_length" = some (some (.ref f_month_length)))
    (l_month_length : K.lookup f_month_length = some ⟨oc_month_length, od_month_length, .func (PySem.W.fnOf "month_length" "month_length" (defArgs s_month_length) (defBody s_month_length) (defScope s_month_length) .none kV_month_length dc_month_length pm_month_length an_month_length cd_month_length ct_month_length), sl_month_length⟩)
    (c_month_length : PySem.W.codeIn K cd_month_length "month_length" = true)
    (k_month_length : PySem.W.keepIn K (.ref f_month_length) = true)
    (a_date_of : PySem.W.nsIn K mainGlobals "date_of" = some (some (.ref f_date_of)))
    (l_date_of : K.lookup f_date_of = some ⟨oc_date_of, od_date_of, .func (PySem.W.fnOf "date_of" "date_of" (defArgs s_date_of) (defBody s_date_of) (defScope s_date_of) .none kV_date_of dc_date_of pm_date_of an_date_of cd_date_of ct_date_of), sl_date_of⟩)
    (c_date_of : PySem.W.codeIn K cd_date_of "date_of" = true)
    (k_date_of : PySem.W.keepIn K (.ref f_date_of) = true)
    (a_day_of : PySem.W.nsIn K mainGlobals "day_of" = some (some (.ref f_day_of)))
    (l_day_of : K.lookup f_day_of = some ⟨oc_day_of, od_day_of, .func (PySem.W.fnOf "day_of" "day_of" (defArgs s_day_of) (defBody s_day_of) (defScope s_day_of) .none kV_day_of dc_day_of pm_day_of an_day_of cd_day_of ct_day_of), sl_day_of⟩)
    (c_day_of : PySem.W.codeIn K cd_day_of "day_of" = true)
    (k_day_of : PySem.W.keepIn K (.ref f_day_of) = true)
    (a_add_months : PySem.W.nsIn K mainGlobals "add_months" = some (some (.ref f_add_months)))
    (l_add_months : K.lookup f_add_months = some ⟨oc_add_months, od_add_months, .func (PySem.W.fnOf "add_months" "add_months" (defArgs s_add_months) (defBody s_add_months) (defScope s_add_months) .none kV_add_months dc_add_months pm_add_months an_add_months cd_add_months ct_add_months), sl_add_months⟩)
    (c_add_months : PySem.W.codeIn K cd_add_months "add_months" = true)
    (k_add_months : PySem.W.keepIn K (.ref f_add_months) = true)
    (a_schedule : PySem.W.nsIn K mainGlobals "schedule" = some (some (.ref f_schedule)))
    (l_schedule : K.lookup f_schedule = some ⟨oc_schedule, od_schedule, .func (PySem.W.fnOf "schedule" "schedule" (defArgs s_schedule) (defBody s_schedule) (defScope s_schedule) .none kV_schedule dc_schedule pm_schedule an_schedule cd_schedule ct_schedule), sl_schedule⟩)
    (c_schedule : PySem.W.codeIn K cd_schedule "schedule" = true)
    (k_schedule : PySem.W.keepIn K (.ref f_schedule) = true)
    (a_fraction : PySem.W.nsIn K mainGlobals "fraction" = some (some (.ref f_fraction)))
    (l_fraction : K.lookup f_fraction = some ⟨oc_fraction, od_fraction, .func (PySem.W.fnOf "fraction" "fraction" (defArgs s_fraction) (defBody s_fraction) (defScope s_fraction) (.ref dT_fraction) kV_fraction dc_fraction pm_fraction an_fraction cd_fraction ct_fraction), sl_fraction⟩)
    (c_fraction : PySem.W.codeIn K cd_fraction "fraction" = true)
    (k_fraction : PySem.W.keepIn K (.ref f_fraction) = true)
    (lT_fraction : K.lookup dT_fraction = some oT_fraction)
    (dT2_fraction : oT_fraction.data = .seq its_fraction.toArray nT_fraction)
    (rT_fraction : Vals [V.int 1] its_fraction)
    (a_plus : PySem.W.nsIn K mainGlobals "plus" = some (some (.ref f_plus)))
    (l_plus : K.lookup f_plus = some ⟨oc_plus, od_plus, .func (PySem.W.fnOf "plus" "plus" (defArgs s_plus) (defBody s_plus) (defScope s_plus) .none kV_plus dc_plus pm_plus an_plus cd_plus ct_plus), sl_plus⟩)
    (c_plus : PySem.W.codeIn K cd_plus "plus" = true)
    (k_plus : PySem.W.keepIn K (.ref f_plus) = true)
    (a_opposite : PySem.W.nsIn K mainGlobals "opposite" = some (some (.ref f_opposite)))
    (l_opposite : K.lookup f_opposite = some ⟨oc_opposite, od_opposite, .func (PySem.W.fnOf "opposite" "opposite" (defArgs s_opposite) (defBody s_opposite) (defScope s_opposite) .none kV_opposite dc_opposite pm_opposite an_opposite cd_opposite ct_opposite), sl_opposite⟩)
    (c_opposite : PySem.W.codeIn K cd_opposite "opposite" = true)
    (k_opposite : PySem.W.keepIn K (.ref f_opposite) = true)
    (a_minus : PySem.W.nsIn K mainGlobals "minus" = some (some (.ref f_minus)))
    (l_minus : K.lookup f_minus = some ⟨oc_minus, od_minus, .func (PySem.W.fnOf "minus" "minus" (defArgs s_minus) (defBody s_minus) (defScope s_minus) .none kV_minus dc_minus pm_minus an_minus cd_minus ct_minus), sl_minus⟩)
    (c_minus : PySem.W.codeIn K cd_minus "minus" = true)
    (k_minus : PySem.W.keepIn K (.ref f_minus) = true)
    (a_times : PySem.W.nsIn K mainGlobals "times" = some (some (.ref f_times)))
    (l_times : K.lookup f_times = some ⟨oc_times, od_times, .func (PySem.W.fnOf "times" "times" (defArgs s_times) (defBody s_times) (defScope s_times) .none kV_times dc_times pm_times an_times cd_times ct_times), sl_times⟩)
    (c_times : PySem.W.codeIn K cd_times "times" = true)
    (k_times : PySem.W.keepIn K (.ref f_times) = true)
    (a_number : PySem.W.nsIn K mainGlobals "_number" = some (some (.ref f_number)))
    (l_number : K.lookup f_number = some ⟨oc_number, od_number, .func (PySem.W.fnOf "_number" "_number" (defArgs s_number) (defBody s_number) (defScope s_number) .none kV_number dc_number pm_number an_number cd_number ct_number), sl_number⟩)
    (c_number : PySem.W.codeIn K cd_number "_number" = true)
    (k_number : PySem.W.keepIn K (.ref f_number) = true)
    (a_part : PySem.W.nsIn K mainGlobals "part" = some (some (.ref f_part)))
    (l_part : K.lookup f_part = some ⟨oc_part, od_part, .func (PySem.W.fnOf "part" "part" (defArgs s_part) (defBody s_part) (defScope s_part) .none kV_part dc_part pm_part an_part cd_part ct_part), sl_part⟩)
    (c_part : PySem.W.codeIn K cd_part "part" = true)
    (k_part : PySem.W.keepIn K (.ref f_part) = true)
    (a_interest : PySem.W.nsIn K mainGlobals "interest" = some (some (.ref f_interest)))
    (l_interest : K.lookup f_interest = some ⟨oc_interest, od_interest, .func (PySem.W.fnOf "interest" "interest" (defArgs s_interest) (defBody s_interest) (defScope s_interest) .none kV_interest dc_interest pm_interest an_interest cd_interest ct_interest), sl_interest⟩)
    (c_interest : PySem.W.codeIn K cd_interest "interest" = true)
    (k_interest : PySem.W.keepIn K (.ref f_interest) = true)
    (a_interests : PySem.W.nsIn K mainGlobals "interests" = some (some (.ref f_interests)))
    (l_interests : K.lookup f_interests = some ⟨oc_interests, od_interests, .func (PySem.W.fnOf "interests" "interests" (defArgs s_interests) (defBody s_interests) (defScope s_interests) .none kV_interests dc_interests pm_interests an_interests cd_interests ct_interests), sl_interests⟩)
    (c_interests : PySem.W.codeIn K cd_interests "interests" = true)
    (k_interests : PySem.W.keepIn K (.ref f_interests) = true)
    (a_law_state : PySem.W.nsIn K mainGlobals "_law_state" = some (some (.ref f_law_state)))
    (l_law_state : K.lookup f_law_state = some ⟨oc_law_state, od_law_state, .func (PySem.W.fnOf "_law_state" "_law_state" (defArgs s_law_state) (defBody s_law_state) (defScope s_law_state) .none kV_law_state dc_law_state pm_law_state an_law_state cd_law_state ct_law_state), sl_law_state⟩)
    (c_law_state : PySem.W.codeIn K cd_law_state "_law_state" = true)
    (k_law_state : PySem.W.keepIn K (.ref f_law_state) = true)
    (a_law_draw : PySem.W.nsIn K mainGlobals "_law_draw" = some (some (.ref f_law_draw)))
    (l_law_draw : K.lookup f_law_draw = some ⟨oc_law_draw, od_law_draw, .func (PySem.W.fnOf "_law_draw" "_law_draw" (defArgs s_law_draw) (defBody s_law_draw) (defScope s_law_draw) .none kV_law_draw dc_law_draw pm_law_draw an_law_draw cd_law_draw ct_law_draw), sl_law_draw⟩)
    (c_law_draw : PySem.W.codeIn K cd_law_draw "_law_draw" = true)
    (k_law_draw : PySem.W.keepIn K (.ref f_law_draw) = true)
    (a_law_lowest : PySem.W.nsIn K mainGlobals "_law_lowest" = some (some (.ref f_law_lowest)))
    (l_law_lowest : K.lookup f_law_lowest = some ⟨oc_law_lowest, od_law_lowest, .func (PySem.W.fnOf "_law_lowest" "_law_lowest" (defArgs s_law_lowest) (defBody s_law_lowest) (defScope s_law_lowest) .none kV_law_lowest dc_law_lowest pm_law_lowest an_law_lowest cd_law_lowest ct_law_lowest), sl_law_lowest⟩)
    (c_law_lowest : PySem.W.codeIn K cd_law_lowest "_law_lowest" = true)
    (k_law_lowest : PySem.W.keepIn K (.ref f_law_lowest) = true)
    (a_law_plus : PySem.W.nsIn K mainGlobals "_law_plus" = some (some (.ref f_law_plus)))
    (l_law_plus : K.lookup f_law_plus = some ⟨oc_law_plus, od_law_plus, .func (PySem.W.fnOf "_law_plus" "_law_plus" (defArgs s_law_plus) (defBody s_law_plus) (defScope s_law_plus) .none kV_law_plus dc_law_plus pm_law_plus an_law_plus cd_law_plus ct_law_plus), sl_law_plus⟩)
    (c_law_plus : PySem.W.codeIn K cd_law_plus "_law_plus" = true)
    (k_law_plus : PySem.W.keepIn K (.ref f_law_plus) = true)
    (a_law_minus : PySem.W.nsIn K mainGlobals "_law_minus" = some (some (.ref f_law_minus)))
    (l_law_minus : K.lookup f_law_minus = some ⟨oc_law_minus, od_law_minus, .func (PySem.W.fnOf "_law_minus" "_law_minus" (defArgs s_law_minus) (defBody s_law_minus) (defScope s_law_minus) .none kV_law_minus dc_law_minus pm_law_minus an_law_minus cd_law_minus ct_law_minus), sl_law_minus⟩)
    (c_law_minus : PySem.W.codeIn K cd_law_minus "_law_minus" = true)
    (k_law_minus : PySem.W.keepIn K (.ref f_law_minus) = true)
    (a_law_times : PySem.W.nsIn K mainGlobals "_law_times" = some (some (.ref f_law_times)))
    (l_law_times : K.lookup f_law_times = some ⟨oc_law_times, od_law_times, .func (PySem.W.fnOf "_law_times" "_law_times" (defArgs s_law_times) (defBody s_law_times) (defScope s_law_times) .none kV_law_times dc_law_times pm_law_times an_law_times cd_law_times ct_law_times), sl_law_times⟩)
    (c_law_times : PySem.W.codeIn K cd_law_times "_law_times" = true)
    (k_law_times : PySem.W.keepIn K (.ref f_law_times) = true)
    (a_law_lengths : PySem.W.nsIn K mainGlobals "_law_lengths" = some (some (.ref f_law_lengths)))
    (l_law_lengths : K.lookup f_law_lengths = some ⟨oc_law_lengths, od_law_lengths, .func (PySem.W.fnOf "_law_lengths" "_law_lengths" (defArgs s_law_lengths) (defBody s_law_lengths) (defScope s_law_lengths) .none kV_law_lengths dc_law_lengths pm_law_lengths an_law_lengths cd_law_lengths ct_law_lengths), sl_law_lengths⟩)
    (c_law_lengths : PySem.W.codeIn K cd_law_lengths "_law_lengths" = true)
    (k_law_lengths : PySem.W.keepIn K (.ref f_law_lengths) = true)
    (a_law_date : PySem.W.nsIn K mainGlobals "_law_date" = some (some (.ref f_law_date)))
    (l_law_date : K.lookup f_law_date = some ⟨oc_law_date, od_law_date, .func (PySem.W.fnOf "_law_date" "_law_date" (defArgs s_law_date) (defBody s_law_date) (defScope s_law_date) .none kV_law_date dc_law_date pm_law_date an_law_date cd_law_date ct_law_date), sl_law_date⟩)
    (c_law_date : PySem.W.codeIn K cd_law_date "_law_date" = true)
    (k_law_date : PySem.W.keepIn K (.ref f_law_date) = true)
    (a_law_number : PySem.W.nsIn K mainGlobals "_law_number" = some (some (.ref f_law_number)))
    (l_law_number : K.lookup f_law_number = some ⟨oc_law_number, od_law_number, .func (PySem.W.fnOf "_law_number" "_law_number" (defArgs s_law_number) (defBody s_law_number) (defScope s_law_number) .none kV_law_number dc_law_number pm_law_number an_law_number cd_law_number ct_law_number), sl_law_number⟩)
    (c_law_number : PySem.W.codeIn K cd_law_number "_law_number" = true)
    (k_law_number : PySem.W.keepIn K (.ref f_law_number) = true)
    (a_law_part : PySem.W.nsIn K mainGlobals "_law_part" = some (some (.ref f_law_part)))
    (l_law_part : K.lookup f_law_part = some ⟨oc_law_part, od_law_part, .func (PySem.W.fnOf "_law_part" "_law_part" (defArgs s_law_part) (defBody s_law_part) (defScope s_law_part) .none kV_law_part dc_law_part pm_law_part an_law_part cd_law_part ct_law_part), sl_law_part⟩)
    (c_law_part : PySem.W.codeIn K cd_law_part "_law_part" = true)
    (k_law_part : PySem.W.keepIn K (.ref f_law_part) = true)
    (a_law_refuses : PySem.W.nsIn K mainGlobals "_law_refuses" = some (some (.ref f_law_refuses)))
    (l_law_refuses : K.lookup f_law_refuses = some ⟨oc_law_refuses, od_law_refuses, .func (PySem.W.fnOf "_law_refuses" "_law_refuses" (defArgs s_law_refuses) (defBody s_law_refuses) (defScope s_law_refuses) .none kV_law_refuses dc_law_refuses pm_law_refuses an_law_refuses cd_law_refuses ct_law_refuses), sl_law_refuses⟩)
    (c_law_refuses : PySem.W.codeIn K cd_law_refuses "_law_refuses" = true)
    (k_law_refuses : PySem.W.keepIn K (.ref f_law_refuses) = true)
    (a_law_fraction : PySem.W.nsIn K mainGlobals "_law_fraction" = some (some (.ref f_law_fraction)))
    (l_law_fraction : K.lookup f_law_fraction = some ⟨oc_law_fraction, od_law_fraction, .func (PySem.W.fnOf "_law_fraction" "_law_fraction" (defArgs s_law_fraction) (defBody s_law_fraction) (defScope s_law_fraction) .none kV_law_fraction dc_law_fraction pm_law_fraction an_law_fraction cd_law_fraction ct_law_fraction), sl_law_fraction⟩)
    (c_law_fraction : PySem.W.codeIn K cd_law_fraction "_law_fraction" = true)
    (k_law_fraction : PySem.W.keepIn K (.ref f_law_fraction) = true)
    (a_law : PySem.W.nsIn K mainGlobals "law" = some (some (.ref f_law)))
    (l_law : K.lookup f_law = some ⟨oc_law, od_law, .func (PySem.W.fnOf "law" "law" (defArgs s_law) (defBody s_law) (defScope s_law) .none kV_law dc_law pm_law an_law cd_law ct_law), sl_law⟩)
    (c_law : PySem.W.codeIn K cd_law "law" = true)
    (k_law : PySem.W.keepIn K (.ref f_law) = true)
    (n_int : PySem.W.nsIn K mainGlobals "int" = some none)
    (n_list : PySem.W.nsIn K mainGlobals "list" = some none)
    (n_sum : PySem.W.nsIn K mainGlobals "sum" = some none)
    (n_min : PySem.W.nsIn K mainGlobals "min" = some none)
    (n_range : PySem.W.nsIn K mainGlobals "range" = some none)
    (n_len : PySem.W.nsIn K mainGlobals "len" = some none)
    (n_abs : PySem.W.nsIn K mainGlobals "abs" = some none)
    (n_isinstance : PySem.W.nsIn K mainGlobals "isinstance" = some none)
    (m_gcd : PySem.W.nsIn K mainGlobals "gcd" = some (some (.builtin "math.gcd")))
    (v_MONTHS : PySem.W.nsIn K mainGlobals "MONTHS" = some (some (.ref ta_MONTHS)))
    (vl_MONTHS : K.lookup ta_MONTHS = some ⟨.type "tuple", tod_MONTHS, .seq tit_MONTHS tn_MONTHS, tsl_MONTHS⟩)
    (vz_MONTHS : tit_MONTHS.size ≤ sizeLine)
    (vr_MONTHS : Vals [.int 31, .int 28, .int 31, .int 30, .int 31, .int 30, .int 31, .int 31, .int 30, .int 31, .int 30, .int 31] tit_MONTHS.toList)
    (v_YEAR : PySem.W.nsIn K mainGlobals "YEAR" = some (some (.int 365 t_YEAR)))
    (v_COUNTS : PySem.W.nsIn K mainGlobals "COUNTS" = some (some (.ref ta_COUNTS)))
    (vl_COUNTS : K.lookup ta_COUNTS = some ⟨.type "tuple", tod_COUNTS, .seq tit_COUNTS tn_COUNTS, tsl_COUNTS⟩)
    (vz_COUNTS : tit_COUNTS.size ≤ sizeLine)
    (vr_COUNTS : Vals [.str "fixed", .str "thirty", .str "plain"] tit_COUNTS.toList)
    (g_ConsolError : PySem.W.nsIn K mainGlobals "ConsolError" = some (some (.ref E_ConsolError)))
    (g_DivisionByZero : PySem.W.nsIn K mainGlobals "DivisionByZero" = some (some (.ref E_DivisionByZero)))
    (g_InvalidDay : PySem.W.nsIn K mainGlobals "InvalidDay" = some (some (.ref E_InvalidDay)))
    (g_InvalidWord : PySem.W.nsIn K mainGlobals "InvalidWord" = some (some (.ref E_InvalidWord)))
    (ex_InvalidDay : PySem.W.excIn K E_InvalidDay [.type "ValueError", .type "Exception", .type "BaseException", .type "object"] "ValueError.__new__" = true)
    (ex_DivisionByZero : PySem.W.excIn K E_DivisionByZero [.type "ValueError", .type "Exception", .type "BaseException", .type "object"] "ValueError.__new__" = true)
    (ei_ConsolError : PySem.W.isClsIn K E_ConsolError = true)
    (ei_InvalidWord : PySem.W.isClsIn K E_InvalidWord = true)
    (ei_InvalidDay : PySem.W.isClsIn K E_InvalidDay = true)
    (ek_ConsolError : PySem.W.keepIn K (.ref E_ConsolError) = true)
    (es_ConsolError : PySem.W.subIn K (.ref E_ConsolError) (.type "BaseException") = some true)
    (et_ConsolError : PySem.W.typeIn K (.ref E_ConsolError) = some (.type "type"))
    (ek_DivisionByZero : PySem.W.keepIn K (.ref E_DivisionByZero) = true)
    (es_DivisionByZero : PySem.W.subIn K (.ref E_DivisionByZero) (.type "BaseException") = some true)
    (et_DivisionByZero : PySem.W.typeIn K (.ref E_DivisionByZero) = some (.type "type"))
    (ek_InvalidDay : PySem.W.keepIn K (.ref E_InvalidDay) = true)
    (es_InvalidDay : PySem.W.subIn K (.ref E_InvalidDay) (.type "BaseException") = some true)
    (et_InvalidDay : PySem.W.typeIn K (.ref E_InvalidDay) = some (.type "type"))
    (ek_InvalidWord : PySem.W.keepIn K (.ref E_InvalidWord) = true)
    (es_InvalidWord : PySem.W.subIn K (.ref E_InvalidWord) (.type "BaseException") = some true)
    (et_InvalidWord : PySem.W.typeIn K (.ref E_InvalidWord) = some (.type "type"))
    (xl_InvalidWord : K.lookup E_InvalidWord = some (excClassObj xn_InvalidWord xq_InvalidWord E_InvalidWord xN_InvalidWord xb_InvalidWord xm_InvalidWord true xt_InvalidWord xs_InvalidWord xa_InvalidWord xc_InvalidWord xd_InvalidWord x0_InvalidWord x1_InvalidWord x2_InvalidWord x3_InvalidWord x5_InvalidWord "ValueError.__new__"))
    (xr_InvalidWord : PySem.HandSPX.refsVE xm_InvalidWord = true)
    (xsa_InvalidWord : PySem.W.findIn K (.ref E_InvalidWord) "__setattr__" = some (some (.builtin "object.__setattr__")))
    (p_InvalidWord : PySem.W.findIn K (.ref E_InvalidWord) "__init__" = some (some (.ref I_InvalidWord)))
    (q_InvalidWord : PySem.W.typeIn K (.ref I_InvalidWord) = some (.type "function"))
    (r_InvalidWord_word : PySem.W.findIn K (.ref E_InvalidWord) "word" = some none)
    (il_InvalidWord : K.lookup I_InvalidWord = some ⟨ioc_InvalidWord, iod_InvalidWord, .func (PySem.W.fnOf "__init__" "InvalidWord.__init__" (defArgs i_InvalidWord) (defBody i_InvalidWord) (defScope i_InvalidWord) .none ikV_InvalidWord idc_InvalidWord ipm_InvalidWord ian_InvalidWord icd_InvalidWord ict_InvalidWord), isl_InvalidWord⟩)
    (ic_InvalidWord : PySem.W.codeIn K icd_InvalidWord "InvalidWord.__init__" = true)
    (ik_InvalidWord : PySem.W.keepIn K (.ref I_InvalidWord) = true)
    (z_InvalidDay_ConsolError : PySem.W.subIn K (.ref E_InvalidDay) (.ref E_ConsolError) = some true)
    (z_InvalidDay_InvalidWord : PySem.W.subIn K (.ref E_InvalidDay) (.ref E_InvalidWord) = some false)
    (z_InvalidDay_InvalidDay : PySem.W.subIn K (.ref E_InvalidDay) (.ref E_InvalidDay) = some true)
    (z_DivisionByZero_ConsolError : PySem.W.subIn K (.ref E_DivisionByZero) (.ref E_ConsolError) = some true)
    (z_DivisionByZero_InvalidWord : PySem.W.subIn K (.ref E_DivisionByZero) (.ref E_InvalidWord) = some false)
    (z_DivisionByZero_InvalidDay : PySem.W.subIn K (.ref E_DivisionByZero) (.ref E_InvalidDay) = some false)
    (z_InvalidWord_ConsolError : PySem.W.subIn K (.ref E_InvalidWord) (.ref E_ConsolError) = some true)
    (z_InvalidWord_InvalidWord : PySem.W.subIn K (.ref E_InvalidWord) (.ref E_InvalidWord) = some true)
    (z_InvalidWord_InvalidDay : PySem.W.subIn K (.ref E_InvalidWord) (.ref E_InvalidDay) = some false) :
    ∃ (fa : Nat → Option Addr) (T : Txt ⟨K, mg, fa⟩), T.a_law = f_law := by
  have M : ∀ {x : Str} {u : Value}, PySem.W.nsIn K mainGlobals x = some (some u) → mg x = some u := fun e => PySem.W.mg_of X G0 e
  have h_month_length : DefAt ⟨K, mg, fun j => if j = 0 then some f_interests else none⟩ "month_length" s_month_length [] f_month_length _ := .mk0 (M a_month_length) l_month_length c_month_length k_month_length
  have b_month_length : Binds K _ ["month"] [] := h_month_length.fn.bindsN fun _ _ _ _ _ _ us hl => match us, hl with | [_], _ => rfl
  have h_date_of : DefAt ⟨K, mg, fun j => if j = 0 then some f_interests else none⟩ "date_of" s_date_of [] f_date_of _ := .mk0 (M a_date_of) l_date_of c_date_of k_date_of
  have b_date_of : Binds K _ ["day"] [] := h_date_of.fn.bindsN fun _ _ _ _ _ _ us hl => match us, hl with | [_], _ => rfl
  have h_day_of : DefAt ⟨K, mg, fun j => if j = 0 then some f_interests else none⟩ "day_of" s_day_of [] f_day_of _ := .mk0 (M a_day_of) l_day_of c_day_of k_day_of
  have b_day_of : Binds K _ ["year", "month", "number"] [] := h_day_of.fn.bindsN fun _ _ _ _ _ _ us hl => match us, hl with | [_, _, _], _ => rfl
  have h_add_months : DefAt ⟨K, mg, fun j => if j = 0 then some f_interests else none⟩ "add_months" s_add_months [] f_add_months _ := .mk0 (M a_add_months) l_add_months c_add_months k_add_months
  have b_add_months : Binds K _ ["day", "count"] [] := h_add_months.fn.bindsN fun _ _ _ _ _ _ us hl => match us, hl with | [_, _], _ => rfl
  have h_schedule : DefAt ⟨K, mg, fun j => if j = 0 then some f_interests else none⟩ "schedule" s_schedule [] f_schedule _ := .mk0 (M a_schedule) l_schedule c_schedule k_schedule
  have b_schedule : Binds K _ ["start", "end", "months"] [] := h_schedule.fn.bindsN fun _ _ _ _ _ _ us hl => match us, hl with | [_, _, _], _ => rfl
  have h_fraction : DefAt ⟨K, mg, fun j => if j = 0 then some f_interests else none⟩ "fraction" s_fraction [V.int 1] f_fraction _ := .mkD (M a_fraction) l_fraction c_fraction k_fraction (by simp) lT_fraction dT2_fraction rT_fraction
  obtain ⟨_, bv_fraction, b_fraction⟩ := h_fraction.fn.binds1 (ps := ["p", "q"]) 2 1 (by simp) (by rfl) (fun _ _ _ _ _ _ _ us its hu hi => match us, hu, its, hi with | [_, _], _, [_], _ => ⟨_, rfl, rfl⟩)
  cases bv_fraction
  have h_plus : DefAt ⟨K, mg, fun j => if j = 0 then some f_interests else none⟩ "plus" s_plus [] f_plus _ := .mk0 (M a_plus) l_plus c_plus k_plus
  have b_plus : Binds K _ ["a", "b"] [] := h_plus.fn.bindsN fun _ _ _ _ _ _ us hl => match us, hl with | [_, _], _ => rfl
  have h_opposite : DefAt ⟨K, mg, fun j => if j = 0 then some f_interests else none⟩ "opposite" s_opposite [] f_opposite _ := .mk0 (M a_opposite) l_opposite c_opposite k_opposite
  have b_opposite : Binds K _ ["a"] [] := h_opposite.fn.bindsN fun _ _ _ _ _ _ us hl => match us, hl with | [_], _ => rfl
  have h_minus : DefAt ⟨K, mg, fun j => if j = 0 then some f_interests else none⟩ "minus" s_minus [] f_minus _ := .mk0 (M a_minus) l_minus c_minus k_minus
  have b_minus : Binds K _ ["a", "b"] [] := h_minus.fn.bindsN fun _ _ _ _ _ _ us hl => match us, hl with | [_, _], _ => rfl
  have h_times : DefAt ⟨K, mg, fun j => if j = 0 then some f_interests else none⟩ "times" s_times [] f_times _ := .mk0 (M a_times) l_times c_times k_times
  have b_times : Binds K _ ["a", "b"] [] := h_times.fn.bindsN fun _ _ _ _ _ _ us hl => match us, hl with | [_, _], _ => rfl
  have h_number : DefAt ⟨K, mg, fun j => if j = 0 then some f_interests else none⟩ "_number" s_number [] f_number _ := .mk0 (M a_number) l_number c_number k_number
  have b_number : Binds K _ ["count", "day"] [] := h_number.fn.bindsN fun _ _ _ _ _ _ us hl => match us, hl with | [_, _], _ => rfl
  have h_part : DefAt ⟨K, mg, fun j => if j = 0 then some f_interests else none⟩ "part" s_part [] f_part _ := .mk0 (M a_part) l_part c_part k_part
  have b_part : Binds K _ ["count", "start", "end"] [] := h_part.fn.bindsN fun _ _ _ _ _ _ us hl => match us, hl with | [_, _, _], _ => rfl
  have h_interest : DefAt ⟨K, mg, fun j => if j = 0 then some f_interests else none⟩ "interest" s_interest [] f_interest _ := .mk0 (M a_interest) l_interest c_interest k_interest
  have b_interest : Binds K _ ["principal", "rate", "count", "start", "end"] [] := h_interest.fn.bindsN fun _ _ _ _ _ _ us hl => match us, hl with | [_, _, _, _, _], _ => rfl
  have h_interests : DefAt ⟨K, mg, fun j => if j = 0 then some f_interests else none⟩ "interests" s_interests [] f_interests _ := .mk0 (M a_interests) l_interests c_interests k_interests
  have b_interests : Binds K _ ["principal", "rate", "count", "days"] [] := h_interests.fn.bindsN fun _ _ _ _ _ _ us hl => match us, hl with | [_, _, _, _], _ => rfl
  have h_law_state : DefAt ⟨K, mg, fun j => if j = 0 then some f_interests else none⟩ "_law_state" s_law_state [] f_law_state _ := .mk0 (M a_law_state) l_law_state c_law_state k_law_state
  have b_law_state : Binds K _ ["_law_script"] [] := h_law_state.fn.bindsN fun _ _ _ _ _ _ us hl => match us, hl with | [_], _ => rfl
  have h_law_draw : DefAt ⟨K, mg, fun j => if j = 0 then some f_interests else none⟩ "_law_draw" s_law_draw [] f_law_draw _ := .mk0 (M a_law_draw) l_law_draw c_law_draw k_law_draw
  have b_law_draw : Binds K _ ["_law_state_here", "_law_many"] [] := h_law_draw.fn.bindsN fun _ _ _ _ _ _ us hl => match us, hl with | [_, _], _ => rfl
  have h_law_lowest : DefAt ⟨K, mg, fun j => if j = 0 then some f_interests else none⟩ "_law_lowest" s_law_lowest [] f_law_lowest _ := .mk0 (M a_law_lowest) l_law_lowest c_law_lowest k_law_lowest
  have b_law_lowest : Binds K _ ["_law_p", "_law_q"] [] := h_law_lowest.fn.bindsN fun _ _ _ _ _ _ us hl => match us, hl with | [_, _], _ => rfl
  have h_law_plus : DefAt ⟨K, mg, fun j => if j = 0 then some f_interests else none⟩ "_law_plus" s_law_plus [] f_law_plus _ := .mk0 (M a_law_plus) l_law_plus c_law_plus k_law_plus
  have b_law_plus : Binds K _ ["_law_a", "_law_b"] [] := h_law_plus.fn.bindsN fun _ _ _ _ _ _ us hl => match us, hl with | [_, _], _ => rfl
  have h_law_minus : DefAt ⟨K, mg, fun j => if j = 0 then some f_interests else none⟩ "_law_minus" s_law_minus [] f_law_minus _ := .mk0 (M a_law_minus) l_law_minus c_law_minus k_law_minus
  have b_law_minus : Binds K _ ["_law_a", "_law_b"] [] := h_law_minus.fn.bindsN fun _ _ _ _ _ _ us hl => match us, hl with | [_, _], _ => rfl
  have h_law_times : DefAt ⟨K, mg, fun j => if j = 0 then some f_interests else none⟩ "_law_times" s_law_times [] f_law_times _ := .mk0 (M a_law_times) l_law_times c_law_times k_law_times
  have b_law_times : Binds K _ ["_law_a", "_law_b"] [] := h_law_times.fn.bindsN fun _ _ _ _ _ _ us hl => match us, hl with | [_, _], _ => rfl
  have h_law_lengths : DefAt ⟨K, mg, fun j => if j = 0 then some f_interests else none⟩ "_law_lengths" s_law_lengths [] f_law_lengths _ := .mk0 (M a_law_lengths) l_law_lengths c_law_lengths k_law_lengths
  have b_law_lengths : Binds K _ [] [] := h_law_lengths.fn.bindsN fun _ _ _ _ _ _ us hl => match us, hl with | [], _ => rfl
  have h_law_date : DefAt ⟨K, mg, fun j => if j = 0 then some f_interests else none⟩ "_law_date" s_law_date [] f_law_date _ := .mk0 (M a_law_date) l_law_date c_law_date k_law_date
  have b_law_date : Binds K _ ["_law_day_here"] [] := h_law_date.fn.bindsN fun _ _ _ _ _ _ us hl => match us, hl with | [_], _ => rfl
  have h_law_number : DefAt ⟨K, mg, fun j => if j = 0 then some f_interests else none⟩ "_law_number" s_law_number [] f_law_number _ := .mk0 (M a_law_number) l_law_number c_law_number k_law_number
  have b_law_number : Binds K _ ["_law_count", "_law_day_here"] [] := h_law_number.fn.bindsN fun _ _ _ _ _ _ us hl => match us, hl with | [_, _], _ => rfl
  have h_law_part : DefAt ⟨K, mg, fun j => if j = 0 then some f_interests else none⟩ "_law_part" s_law_part [] f_law_part _ := .mk0 (M a_law_part) l_law_part c_law_part k_law_part
  have b_law_part : Binds K _ ["_law_count", "_law_start", "_law_end"] [] := h_law_part.fn.bindsN fun _ _ _ _ _ _ us hl => match us, hl with | [_, _, _], _ => rfl
  have h_law_refuses : DefAt ⟨K, mg, fun j => if j = 0 then some f_interests else none⟩ "_law_refuses" s_law_refuses [] f_law_refuses _ := .mk0 (M a_law_refuses) l_law_refuses c_law_refuses k_law_refuses
  have b_law_refuses : Binds K _ ["_law_call", "_law_arguments", "_law_wanted"] [] := h_law_refuses.fn.bindsN fun _ _ _ _ _ _ us hl => match us, hl with | [_, _, _], _ => rfl
  have h_law_fraction : DefAt ⟨K, mg, fun j => if j = 0 then some f_interests else none⟩ "_law_fraction" s_law_fraction [] f_law_fraction _ := .mk0 (M a_law_fraction) l_law_fraction c_law_fraction k_law_fraction
  have b_law_fraction : Binds K _ ["_law_state_here"] [] := h_law_fraction.fn.bindsN fun _ _ _ _ _ _ us hl => match us, hl with | [_], _ => rfl
  have h_law : DefAt ⟨K, mg, fun j => if j = 0 then some f_interests else none⟩ "law" s_law [] f_law _ := .mk0 (M a_law) l_law c_law k_law
  have b_law : Binds K _ ["_law_script"] [] := h_law.fn.bindsN fun _ _ _ _ _ _ us hl => match us, hl with | [_], _ => rfl
  have u_InvalidWord := fun_mk (st := i_InvalidWord) il_InvalidWord ic_InvalidWord ik_InvalidWord
  have w_InvalidWord := u_InvalidWord.binds (ps := ["self", "word"]) fun _ _ _ _ _ _ us hl => match us, hl with | [_, _], _ => rfl
  exact ⟨fun j => if j = 0 then some f_interests else none, {
    a_month_length := f_month_length
    d_month_length := _
    h_month_length := h_month_length
    b_month_length := b_month_length
    a_date_of := f_date_of
    d_date_of := _
    h_date_of := h_date_of
    b_date_of := b_date_of
    a_day_of := f_day_of
    d_day_of := _
    h_day_of := h_day_of
    b_day_of := b_day_of
    a_add_months := f_add_months
    d_add_months := _
    h_add_months := h_add_months
    b_add_months := b_add_months
    a_schedule := f_schedule
    d_schedule := _
    h_schedule := h_schedule
    b_schedule := b_schedule
    a_fraction := f_fraction
    d_fraction := _
    h_fraction := h_fraction
    b_fraction := b_fraction
    a_plus := f_plus
    d_plus := _
    h_plus := h_plus
    b_plus := b_plus
    a_opposite := f_opposite
    d_opposite := _
    h_opposite := h_opposite
    b_opposite := b_opposite
    a_minus := f_minus
    d_minus := _
    h_minus := h_minus
    b_minus := b_minus
    a_times := f_times
    d_times := _
    h_times := h_times
    b_times := b_times
    a_number := f_number
    d_number := _
    h_number := h_number
    b_number := b_number
    a_part := f_part
    d_part := _
    h_part := h_part
    b_part := b_part
    a_interest := f_interest
    d_interest := _
    h_interest := h_interest
    b_interest := b_interest
    a_interests := f_interests
    d_interests := _
    h_interests := h_interests
    b_interests := b_interests
    a_law_state := f_law_state
    d_law_state := _
    h_law_state := h_law_state
    b_law_state := b_law_state
    a_law_draw := f_law_draw
    d_law_draw := _
    h_law_draw := h_law_draw
    b_law_draw := b_law_draw
    a_law_lowest := f_law_lowest
    d_law_lowest := _
    h_law_lowest := h_law_lowest
    b_law_lowest := b_law_lowest
    a_law_plus := f_law_plus
    d_law_plus := _
    h_law_plus := h_law_plus
    b_law_plus := b_law_plus
    a_law_minus := f_law_minus
    d_law_minus := _
    h_law_minus := h_law_minus
    b_law_minus := b_law_minus
    a_law_times := f_law_times
    d_law_times := _
    h_law_times := h_law_times
    b_law_times := b_law_times
    a_law_lengths := f_law_lengths
    d_law_lengths := _
    h_law_lengths := h_law_lengths
    b_law_lengths := b_law_lengths
    a_law_date := f_law_date
    d_law_date := _
    h_law_date := h_law_date
    b_law_date := b_law_date
    a_law_number := f_law_number
    d_law_number := _
    h_law_number := h_law_number
    b_law_number := b_law_number
    a_law_part := f_law_part
    d_law_part := _
    h_law_part := h_law_part
    b_law_part := b_law_part
    a_law_refuses := f_law_refuses
    d_law_refuses := _
    h_law_refuses := h_law_refuses
    b_law_refuses := b_law_refuses
    a_law_fraction := f_law_fraction
    d_law_fraction := _
    h_law_fraction := h_law_fraction
    b_law_fraction := b_law_fraction
    a_law := f_law
    d_law := _
    h_law := h_law
    b_law := b_law
    n_int := PySem.W.mg_none_of X G0 n_int
    n_list := PySem.W.mg_none_of X G0 n_list
    n_sum := PySem.W.mg_none_of X G0 n_sum
    n_min := PySem.W.mg_none_of X G0 n_min
    n_range := PySem.W.mg_none_of X G0 n_range
    n_len := PySem.W.mg_none_of X G0 n_len
    n_abs := PySem.W.mg_none_of X G0 n_abs
    n_isinstance := PySem.W.mg_none_of X G0 n_isinstance
    m_gcd := M m_gcd
    c_MONTHS := gv_tup (M v_MONTHS) vl_MONTHS vz_MONTHS vr_MONTHS (fun _ _ => by repeat (first | exact .nil | refine .cons (by constructor) ?_))
    c_YEAR := gv_int (M v_YEAR)
    c_COUNTS := gv_tup (M v_COUNTS) vl_COUNTS vz_COUNTS vr_COUNTS (fun _ _ => by repeat (first | exact .nil | refine .cons (by constructor) ?_))
    E_ConsolError := E_ConsolError
    g_ConsolError := M g_ConsolError
    E_DivisionByZero := E_DivisionByZero
    g_DivisionByZero := M g_DivisionByZero
    E_InvalidDay := E_InvalidDay
    g_InvalidDay := M g_InvalidDay
    E_InvalidWord := E_InvalidWord
    g_InvalidWord := M g_InvalidWord
    e_InvalidDay := ⟨ex_InvalidDay, M g_InvalidDay, ek_InvalidDay, es_InvalidDay, et_InvalidDay⟩
    e_DivisionByZero := ⟨ex_DivisionByZero, M g_DivisionByZero, ek_DivisionByZero, es_DivisionByZero, et_DivisionByZero⟩
    I_InvalidWord := I_InvalidWord
    J_InvalidWord := _
    o_InvalidWord := ⟨⟨_, _, _, _, _, _, _, _, _, _, _, _, _, _, _, xl_InvalidWord, xr_InvalidWord⟩, xsa_InvalidWord, es_InvalidWord, et_InvalidWord, ek_InvalidWord⟩
    p_InvalidWord := p_InvalidWord
    q_InvalidWord := q_InvalidWord
    r_InvalidWord_word := r_InvalidWord_word
    u_InvalidWord := u_InvalidWord
    w_InvalidWord := w_InvalidWord
    z_InvalidDay_ConsolError := exm_in es_ConsolError ei_ConsolError et_ConsolError z_InvalidDay_ConsolError
    z_InvalidDay_InvalidWord := exm_in es_InvalidWord ei_InvalidWord et_InvalidWord z_InvalidDay_InvalidWord
    z_InvalidDay_InvalidDay := exm_in es_InvalidDay ei_InvalidDay et_InvalidDay z_InvalidDay_InvalidDay
    z_DivisionByZero_ConsolError := exm_in es_ConsolError ei_ConsolError et_ConsolError z_DivisionByZero_ConsolError
    z_DivisionByZero_InvalidWord := exm_in es_InvalidWord ei_InvalidWord et_InvalidWord z_DivisionByZero_InvalidWord
    z_DivisionByZero_InvalidDay := exm_in es_InvalidDay ei_InvalidDay et_InvalidDay z_DivisionByZero_InvalidDay
    z_InvalidWord_ConsolError := exm_in es_ConsolError ei_ConsolError et_ConsolError z_InvalidWord_ConsolError
    z_InvalidWord_InvalidWord := exm_in es_InvalidWord ei_InvalidWord et_InvalidWord z_InvalidWord_InvalidWord
    z_InvalidWord_InvalidDay := exm_in es_InvalidDay ei_InvalidDay et_InvalidDay z_InvalidWord_InvalidDay
    fa_ok := fun j a e => by
      dsimp only at e
      by_cases e0 : j = 0
      · rw [if_pos e0] at e; cases e; exact ⟨e0, rfl⟩
      rw [if_neg e0] at e
      cases e
    v_interests := gv_fn (M a_interests) rfl }, rfl⟩
theorem fin {prog : Program} {w : World} {K : PySem.W.Frag} {h : Heap} {mg : Str → Option Value} {fa : Addr} (X : K.In h) (G0 : h.Ns mainGlobals mg) (hfa : mg "law" = some (.ref fa)) {f_month_length f_date_of f_day_of f_add_months f_schedule f_fraction f_plus f_opposite f_minus f_times f_number f_part f_interest f_interests f_law_state f_law_draw f_law_lowest f_law_plus f_law_minus f_law_times f_law_lengths f_law_date f_law_number f_law_part f_law_refuses f_law_fraction f_law E_ConsolError E_DivisionByZero E_InvalidDay E_InvalidWord I_InvalidWord : Addr}
    {oc_month_length dc_month_length pm_month_length cd_month_length ct_month_length kV_month_length : Value} {od_month_length an_month_length : Option Addr} {sl_month_length : Array (Option Value)}
    {oc_date_of dc_date_of pm_date_of cd_date_of ct_date_of kV_date_of : Value} {od_date_of an_date_of : Option Addr} {sl_date_of : Array (Option Value)}
    {oc_day_of dc_day_of pm_day_of cd_day_of ct_day_of kV_day_of : Value} {od_day_of an_day_of : Option Addr} {sl_day_of : Array (Option Value)}
    {oc_add_months dc_add_months pm_add_months cd_add_months ct_add_months kV_add_months : Value} {od_add_months an_add_months : Option Addr} {sl_add_months : Array (Option Value)}
    {oc_schedule dc_schedule pm_schedule cd_schedule ct_schedule kV_schedule : Value} {od_schedule an_schedule : Option Addr} {sl_schedule : Array (Option Value)}
    {oc_fraction dc_fraction pm_fraction cd_fraction ct_fraction kV_fraction : Value} {od_fraction an_fraction : Option Addr} {sl_fraction : Array (Option Value)}
    {dT_fraction : Addr} {oT_fraction : Obj} {its_fraction : List Value} {nT_fraction : Nat}
    {oc_plus dc_plus pm_plus cd_plus ct_plus kV_plus : Value} {od_plus an_plus : Option Addr} {sl_plus : Array (Option Value)}
    {oc_opposite dc_opposite pm_opposite cd_opposite ct_opposite kV_opposite : Value} {od_opposite an_opposite : Option Addr} {sl_opposite : Array (Option Value)}
    {oc_minus dc_minus pm_minus cd_minus ct_minus kV_minus : Value} {od_minus an_minus : Option Addr} {sl_minus : Array (Option Value)}
    {oc_times dc_times pm_times cd_times ct_times kV_times : Value} {od_times an_times : Option Addr} {sl_times : Array (Option Value)}
    {oc_number dc_number pm_number cd_number ct_number kV_number : Value} {od_number an_number : Option Addr} {sl_number : Array (Option Value)}
    {oc_part dc_part pm_part cd_part ct_part kV_part : Value} {od_part an_part : Option Addr} {sl_part : Array (Option Value)}
    {oc_interest dc_interest pm_interest cd_interest ct_interest kV_interest : Value} {od_interest an_interest : Option Addr} {sl_interest : Array (Option Value)}
    {oc_interests dc_interests pm_interests cd_interests ct_interests kV_interests : Value} {od_interests an_interests : Option Addr} {sl_interests : Array (Option Value)}
    {oc_law_state dc_law_state pm_law_state cd_law_state ct_law_state kV_law_state : Value} {od_law_state an_law_state : Option Addr} {sl_law_state : Array (Option Value)}
    {oc_law_draw dc_law_draw pm_law_draw cd_law_draw ct_law_draw kV_law_draw : Value} {od_law_draw an_law_draw : Option Addr} {sl_law_draw : Array (Option Value)}
    {oc_law_lowest dc_law_lowest pm_law_lowest cd_law_lowest ct_law_lowest kV_law_lowest : Value} {od_law_lowest an_law_lowest : Option Addr} {sl_law_lowest : Array (Option Value)}
    {oc_law_plus dc_law_plus pm_law_plus cd_law_plus ct_law_plus kV_law_plus : Value} {od_law_plus an_law_plus : Option Addr} {sl_law_plus : Array (Option Value)}
    {oc_law_minus dc_law_minus pm_law_minus cd_law_minus ct_law_minus kV_law_minus : Value} {od_law_minus an_law_minus : Option Addr} {sl_law_minus : Array (Option Value)}
    {oc_law_times dc_law_times pm_law_times cd_law_times ct_law_times kV_law_times : Value} {od_law_times an_law_times : Option Addr} {sl_law_times : Array (Option Value)}
    {oc_law_lengths dc_law_lengths pm_law_lengths cd_law_lengths ct_law_lengths kV_law_lengths : Value} {od_law_lengths an_law_lengths : Option Addr} {sl_law_lengths : Array (Option Value)}
    {oc_law_date dc_law_date pm_law_date cd_law_date ct_law_date kV_law_date : Value} {od_law_date an_law_date : Option Addr} {sl_law_date : Array (Option Value)}
    {oc_law_number dc_law_number pm_law_number cd_law_number ct_law_number kV_law_number : Value} {od_law_number an_law_number : Option Addr} {sl_law_number : Array (Option Value)}
    {oc_law_part dc_law_part pm_law_part cd_law_part ct_law_part kV_law_part : Value} {od_law_part an_law_part : Option Addr} {sl_law_part : Array (Option Value)}
    {oc_law_refuses dc_law_refuses pm_law_refuses cd_law_refuses ct_law_refuses kV_law_refuses : Value} {od_law_refuses an_law_refuses : Option Addr} {sl_law_refuses : Array (Option Value)}
    {oc_law_fraction dc_law_fraction pm_law_fraction cd_law_fraction ct_law_fraction kV_law_fraction : Value} {od_law_fraction an_law_fraction : Option Addr} {sl_law_fraction : Array (Option Value)}
    {oc_law dc_law pm_law cd_law ct_law kV_law : Value} {od_law an_law : Option Addr} {sl_law : Array (Option Value)}
    {ta_MONTHS : Addr} {tod_MONTHS : Option Addr} {tit_MONTHS : Array Value} {tn_MONTHS : Nat} {tsl_MONTHS : Array (Option Value)}
    {t_YEAR : Tok}
    {ta_COUNTS : Addr} {tod_COUNTS : Option Addr} {tit_COUNTS : Array Value} {tn_COUNTS : Nat} {tsl_COUNTS : Array (Option Value)}
    {xn_InvalidWord xq_InvalidWord : Str} {xN_InvalidWord : Addr} {xb_InvalidWord xm_InvalidWord xs_InvalidWord : List Value} {xt_InvalidWord : List Str} {xa_InvalidWord : Bool} {xc_InvalidWord : Option Bool} {xd_InvalidWord : Option Addr} {x0_InvalidWord x1_InvalidWord x2_InvalidWord x3_InvalidWord x5_InvalidWord : Option Value}
    {ioc_InvalidWord ikV_InvalidWord idc_InvalidWord ipm_InvalidWord icd_InvalidWord ict_InvalidWord : Value} {iod_InvalidWord ian_InvalidWord : Option Addr} {isl_InvalidWord : Array (Option Value)}
    (a_month_length : PySem.W.nsIn K mainGlobals "month_length" = some (some (.ref f_month_length)))
    (l_month_length : K.lookup f_month_length = some ⟨oc_month_length, od_month_length, .func (PySem.W.fnOf "month_length" "month_length" (defArgs s_month_length) (defBody s_month_length) (defScope s_month_length) .none kV_month_length dc_month_length pm_month_length an_month_length cd_month_length ct_month_length), sl_month_length⟩)
    (c_month_length : PySem.W.codeIn K cd_month_length "month_length" = true)
    (k_month_length : PySem.W.keepIn K (.ref f_month_length) = true)
    (a_date_of : PySem.W.nsIn K mainGlobals "date_of" = some (some (.ref f_date_of)))
    (l_date_of : K.lookup f_date_of = some ⟨oc_date_of, od_date_of, .func (PySem.W.fnOf "date_of" "date_of" (defArgs s_date_of) (defBody s_date_of) (defScope s_date_of) .none kV_date_of dc_date_of pm_date_of an_date_of cd_date_of ct_date_of), sl_date_of⟩)
    (c_date_of : PySem.W.codeIn K cd_date_of "date_of" = true)
    (k_date_of : PySem.W.keepIn K (.ref f_date_of) = true)
    (a_day_of : PySem.W.nsIn K mainGlobals "day_of" = some (some (.ref f_day_of)))
    (l_day_of : K.lookup f_day_of = some ⟨oc_day_of, od_day_of, .func (PySem.W.fnOf "day_of" "day_of" (defArgs s_day_of) (defBody s_day_of) (defScope s_day_of) .none kV_day_of dc_day_of pm_day_of an_day_of cd_day_of ct_day_of), sl_day_of⟩)
    (c_day_of : PySem.W.codeIn K cd_day_of "day_of" = true)
    (k_day_of : PySem.W.keepIn K (.ref f_day_of) = true)
    (a_add_months : PySem.W.nsIn K mainGlobals "add_months" = some (some (.ref f_add_months)))
    (l_add_months : K.lookup f_add_months = some ⟨oc_add_months, od_add_months, .func (PySem.W.fnOf "add_months" "add_months" (defArgs s_add_months) (defBody s_add_months) (defScope s_add_months) .none kV_add_months dc_add_months pm_add_months an_add_months cd_add_months ct_add_months), sl_add_months⟩)
    (c_add_months : PySem.W.codeIn K cd_add_months "add_months" = true)
    (k_add_months : PySem.W.keepIn K (.ref f_add_months) = true)
    (a_schedule : PySem.W.nsIn K mainGlobals "schedule" = some (some (.ref f_schedule)))
    (l_schedule : K.lookup f_schedule = some ⟨oc_schedule, od_schedule, .func (PySem.W.fnOf "schedule" "schedule" (defArgs s_schedule) (defBody s_schedule) (defScope s_schedule) .none kV_schedule dc_schedule pm_schedule an_schedule cd_schedule ct_schedule), sl_schedule⟩)
    (c_schedule : PySem.W.codeIn K cd_schedule "schedule" = true)
    (k_schedule : PySem.W.keepIn K (.ref f_schedule) = true)
    (a_fraction : PySem.W.nsIn K mainGlobals "fraction" = some (some (.ref f_fraction)))
    (l_fraction : K.lookup f_fraction = some ⟨oc_fraction, od_fraction, .func (PySem.W.fnOf "fraction" "fraction" (defArgs s_fraction) (defBody s_fraction) (defScope s_fraction) (.ref dT_fraction) kV_fraction dc_fraction pm_fraction an_fraction cd_fraction ct_fraction), sl_fraction⟩)
    (c_fraction : PySem.W.codeIn K cd_fraction "fraction" = true)
    (k_fraction : PySem.W.keepIn K (.ref f_fraction) = true)
    (lT_fraction : K.lookup dT_fraction = some oT_fraction)
    (dT2_fraction : oT_fraction.data = .seq its_fraction.toArray nT_fraction)
    (rT_fraction : Vals [V.int 1] its_fraction)
    (a_plus : PySem.W.nsIn K mainGlobals "plus" = some (some (.ref f_plus)))
    (l_plus : K.lookup f_plus = some ⟨oc_plus, od_plus, .func (PySem.W.fnOf "plus" "plus" (defArgs s_plus) (defBody s_plus) (defScope s_plus) .none kV_plus dc_plus pm_plus an_plus cd_plus ct_plus), sl_plus⟩)
    (c_plus : PySem.W.codeIn K cd_plus "plus" = true)
    (k_plus : PySem.W.keepIn K (.ref f_plus) = true)
    (a_opposite : PySem.W.nsIn K mainGlobals "opposite" = some (some (.ref f_opposite)))
    (l_opposite : K.lookup f_opposite = some ⟨oc_opposite, od_opposite, .func (PySem.W.fnOf "opposite" "opposite" (defArgs s_opposite) (defBody s_opposite) (defScope s_opposite) .none kV_opposite dc_opposite pm_opposite an_opposite cd_opposite ct_opposite), sl_opposite⟩)
    (c_opposite : PySem.W.codeIn K cd_opposite "opposite" = true)
    (k_opposite : PySem.W.keepIn K (.ref f_opposite) = true)
    (a_minus : PySem.W.nsIn K mainGlobals "minus" = some (some (.ref f_minus)))
    (l_minus : K.lookup f_minus = some ⟨oc_minus, od_minus, .func (PySem.W.fnOf "minus" "minus" (defArgs s_minus) (defBody s_minus) (defScope s_minus) .none kV_minus dc_minus pm_minus an_minus cd_minus ct_minus), sl_minus⟩)
    (c_minus : PySem.W.codeIn K cd_minus "minus" = true)
    (k_minus : PySem.W.keepIn K (.ref f_minus) = true)
    (a_times : PySem.W.nsIn K mainGlobals "times" = some (some (.ref f_times)))
    (l_times : K.lookup f_times = some ⟨oc_times, od_times, .func (PySem.W.fnOf "times" "times" (defArgs s_times) (defBody s_times) (defScope s_times) .none kV_times dc_times pm_times an_times cd_times ct_times), sl_times⟩)
    (c_times : PySem.W.codeIn K cd_times "times" = true)
    (k_times : PySem.W.keepIn K (.ref f_times) = true)
    (a_number : PySem.W.nsIn K mainGlobals "_number" = some (some (.ref f_number)))
    (l_number : K.lookup f_number = some ⟨oc_number, od_number, .func (PySem.W.fnOf "_number" "_number" (defArgs s_number) (defBody s_number) (defScope s_number) .none kV_number dc_number pm_number an_number cd_number ct_number), sl_number⟩)
    (c_number : PySem.W.codeIn K cd_number "_number" = true)
    (k_number : PySem.W.keepIn K (.ref f_number) = true)
    (a_part : PySem.W.nsIn K mainGlobals "part" = some (some (.ref f_part)))
    (l_part : K.lookup f_part = some ⟨oc_part, od_part, .func (PySem.W.fnOf "part" "part" (defArgs s_part) (defBody s_part) (defScope s_part) .none kV_part dc_part pm_part an_part cd_part ct_part), sl_part⟩)
    (c_part : PySem.W.codeIn K cd_part "part" = true)
    (k_part : PySem.W.keepIn K (.ref f_part) = true)
    (a_interest : PySem.W.nsIn K mainGlobals "interest" = some (some (.ref f_interest)))
    (l_interest : K.lookup f_interest = some ⟨oc_interest, od_interest, .func (PySem.W.fnOf "interest" "interest" (defArgs s_interest) (defBody s_interest) (defScope s_interest) .none kV_interest dc_interest pm_interest an_interest cd_interest ct_interest), sl_interest⟩)
    (c_interest : PySem.W.codeIn K cd_interest "interest" = true)
    (k_interest : PySem.W.keepIn K (.ref f_interest) = true)
    (a_interests : PySem.W.nsIn K mainGlobals "interests" = some (some (.ref f_interests)))
    (l_interests : K.lookup f_interests = some ⟨oc_interests, od_interests, .func (PySem.W.fnOf "interests" "interests" (defArgs s_interests) (defBody s_interests) (defScope s_interests) .none kV_interests dc_interests pm_interests an_interests cd_interests ct_interests), sl_interests⟩)
    (c_interests : PySem.W.codeIn K cd_interests "interests" = true)
    (k_interests : PySem.W.keepIn K (.ref f_interests) = true)
    (a_law_state : PySem.W.nsIn K mainGlobals "_law_state" = some (some (.ref f_law_state)))
    (l_law_state : K.lookup f_law_state = some ⟨oc_law_state, od_law_state, .func (PySem.W.fnOf "_law_state" "_law_state" (defArgs s_law_state) (defBody s_law_state) (defScope s_law_state) .none kV_law_state dc_law_state pm_law_state an_law_state cd_law_state ct_law_state), sl_law_state⟩)
    (c_law_state : PySem.W.codeIn K cd_law_state "_law_state" = true)
    (k_law_state : PySem.W.keepIn K (.ref f_law_state) = true)
    (a_law_draw : PySem.W.nsIn K mainGlobals "_law_draw" = some (some (.ref f_law_draw)))
    (l_law_draw : K.lookup f_law_draw = some ⟨oc_law_draw, od_law_draw, .func (PySem.W.fnOf "_law_draw" "_law_draw" (defArgs s_law_draw) (defBody s_law_draw) (defScope s_law_draw) .none kV_law_draw dc_law_draw pm_law_draw an_law_draw cd_law_draw ct_law_draw), sl_law_draw⟩)
    (c_law_draw : PySem.W.codeIn K cd_law_draw "_law_draw" = true)
    (k_law_draw : PySem.W.keepIn K (.ref f_law_draw) = true)
    (a_law_lowest : PySem.W.nsIn K mainGlobals "_law_lowest" = some (some (.ref f_law_lowest)))
    (l_law_lowest : K.lookup f_law_lowest = some ⟨oc_law_lowest, od_law_lowest, .func (PySem.W.fnOf "_law_lowest" "_law_lowest" (defArgs s_law_lowest) (defBody s_law_lowest) (defScope s_law_lowest) .none kV_law_lowest dc_law_lowest pm_law_lowest an_law_lowest cd_law_lowest ct_law_lowest), sl_law_lowest⟩)
    (c_law_lowest : PySem.W.codeIn K cd_law_lowest "_law_lowest" = true)
    (k_law_lowest : PySem.W.keepIn K (.ref f_law_lowest) = true)
    (a_law_plus : PySem.W.nsIn K mainGlobals "_law_plus" = some (some (.ref f_law_plus)))
    (l_law_plus : K.lookup f_law_plus = some ⟨oc_law_plus, od_law_plus, .func (PySem.W.fnOf "_law_plus" "_law_plus" (defArgs s_law_plus) (defBody s_law_plus) (defScope s_law_plus) .none kV_law_plus dc_law_plus pm_law_plus an_law_plus cd_law_plus ct_law_plus), sl_law_plus⟩)
    (c_law_plus : PySem.W.codeIn K cd_law_plus "_law_plus" = true)
    (k_law_plus : PySem.W.keepIn K (.ref f_law_plus) = true)
    (a_law_minus : PySem.W.nsIn K mainGlobals "_law_minus" = some (some (.ref f_law_minus)))
    (l_law_minus : K.lookup f_law_minus = some ⟨oc_law_minus, od_law_minus, .func (PySem.W.fnOf "_law_minus" "_law_minus" (defArgs s_law_minus) (defBody s_law_minus) (defScope s_law_minus) .none kV_law_minus dc_law_minus pm_law_minus an_law_minus cd_law_minus ct_law_minus), sl_law_minus⟩)
    (c_law_minus : PySem.W.codeIn K cd_law_minus "_law_minus" = true)
    (k_law_minus : PySem.W.keepIn K (.ref f_law_minus) = true)
    (a_law_times : PySem.W.nsIn K mainGlobals "_law_times" = some (some (.ref f_law_times)))
    (l_law_times : K.lookup f_law_times = some ⟨oc_law_times, od_law_times, .func (PySem.W.fnOf "_law_times" "_law_times" (defArgs s_law_times) (defBody s_law_times) (defScope s_law_times) .none kV_law_times dc_law_times pm_law_times an_law_times cd_law_times ct_law_times), sl_law_times⟩)
    (c_law_times : PySem.W.codeIn K cd_law_times "_law_times" = true)
    (k_law_times : PySem.W.keepIn K (.ref f_law_times) = true)
    (a_law_lengths : PySem.W.nsIn K mainGlobals "_law_lengths" = some (some (.ref f_law_lengths)))
    (l_law_lengths : K.lookup f_law_lengths = some ⟨oc_law_lengths, od_law_lengths, .func (PySem.W.fnOf "_law_lengths" "_law_lengths" (defArgs s_law_lengths) (defBody s_law_lengths) (defScope s_law_lengths) .none kV_law_lengths dc_law_lengths pm_law_lengths an_law_lengths cd_law_lengths ct_law_lengths), sl_law_lengths⟩)
    (c_law_lengths : PySem.W.codeIn K cd_law_lengths "_law_lengths" = true)
    (k_law_lengths : PySem.W.keepIn K (.ref f_law_lengths) = true)
    (a_law_date : PySem.W.nsIn K mainGlobals "_law_date" = some (some (.ref f_law_date)))
    (l_law_date : K.lookup f_law_date = some ⟨oc_law_date, od_law_date, .func (PySem.W.fnOf "_law_date" "_law_date" (defArgs s_law_date) (defBody s_law_date) (defScope s_law_date) .none kV_law_date dc_law_date pm_law_date an_law_date cd_law_date ct_law_date), sl_law_date⟩)
    (c_law_date : PySem.W.codeIn K cd_law_date "_law_date" = true)
    (k_law_date : PySem.W.keepIn K (.ref f_law_date) = true)
    (a_law_number : PySem.W.nsIn K mainGlobals "_law_number" = some (some (.ref f_law_number)))
    (l_law_number : K.lookup f_law_number = some ⟨oc_law_number, od_law_number, .func (PySem.W.fnOf "_law_number" "_law_number" (defArgs s_law_number) (defBody s_law_number) (defScope s_law_number) .none kV_law_number dc_law_number pm_law_number an_law_number cd_law_number ct_law_number), sl_law_number⟩)
    (c_law_number : PySem.W.codeIn K cd_law_number "_law_number" = true)
    (k_law_number : PySem.W.keepIn K (.ref f_law_number) = true)
    (a_law_part : PySem.W.nsIn K mainGlobals "_law_part" = some (some (.ref f_law_part)))
    (l_law_part : K.lookup f_law_part = some ⟨oc_law_part, od_law_part, .func (PySem.W.fnOf "_law_part" "_law_part" (defArgs s_law_part) (defBody s_law_part) (defScope s_law_part) .none kV_law_part dc_law_part pm_law_part an_law_part cd_law_part ct_law_part), sl_law_part⟩)
    (c_law_part : PySem.W.codeIn K cd_law_part "_law_part" = true)
    (k_law_part : PySem.W.keepIn K (.ref f_law_part) = true)
    (a_law_refuses : PySem.W.nsIn K mainGlobals "_law_refuses" = some (some (.ref f_law_refuses)))
    (l_law_refuses : K.lookup f_law_refuses = some ⟨oc_law_refuses, od_law_refuses, .func (PySem.W.fnOf "_law_refuses" "_law_refuses" (defArgs s_law_refuses) (defBody s_law_refuses) (defScope s_law_refuses) .none kV_law_refuses dc_law_refuses pm_law_refuses an_law_refuses cd_law_refuses ct_law_refuses), sl_law_refuses⟩)
    (c_law_refuses : PySem.W.codeIn K cd_law_refuses "_law_refuses" = true)
    (k_law_refuses : PySem.W.keepIn K (.ref f_law_refuses) = true)
    (a_law_fraction : PySem.W.nsIn K mainGlobals "_law_fraction" = some (some (.ref f_law_fraction)))
    (l_law_fraction : K.lookup f_law_fraction = some ⟨oc_law_fraction, od_law_fraction, .func (PySem.W.fnOf "_law_fraction" "_law_fraction" (defArgs s_law_fraction) (defBody s_law_fraction) (defScope s_law_fraction) .none kV_law_fraction dc_law_fraction pm_law_fraction an_law_fraction cd_law_fraction ct_law_fraction), sl_law_fraction⟩)
    (c_law_fraction : PySem.W.codeIn K cd_law_fraction "_law_fraction" = true)
    (k_law_fraction : PySem.W.keepIn K (.ref f_law_fraction) = true)
    (a_law : PySem.W.nsIn K mainGlobals "law" = some (some (.ref f_law)))
    (l_law : K.lookup f_law = some ⟨oc_law, od_law, .func (PySem.W.fnOf "law" "law" (defArgs s_law) (defBody s_law) (defScope s_law) .none kV_law dc_law pm_law an_law cd_law ct_law), sl_law⟩)
    (c_law : PySem.W.codeIn K cd_law "law" = true)
    (k_law : PySem.W.keepIn K (.ref f_law) = true)
    (n_int : PySem.W.nsIn K mainGlobals "int" = some none)
    (n_list : PySem.W.nsIn K mainGlobals "list" = some none)
    (n_sum : PySem.W.nsIn K mainGlobals "sum" = some none)
    (n_min : PySem.W.nsIn K mainGlobals "min" = some none)
    (n_range : PySem.W.nsIn K mainGlobals "range" = some none)
    (n_len : PySem.W.nsIn K mainGlobals "len" = some none)
    (n_abs : PySem.W.nsIn K mainGlobals "abs" = some none)
    (n_isinstance : PySem.W.nsIn K mainGlobals "isinstance" = some none)
    (m_gcd : PySem.W.nsIn K mainGlobals "gcd" = some (some (.builtin "math.gcd")))
    (v_MONTHS : PySem.W.nsIn K mainGlobals "MONTHS" = some (some (.ref ta_MONTHS)))
    (vl_MONTHS : K.lookup ta_MONTHS = some ⟨.type "tuple", tod_MONTHS, .seq tit_MONTHS tn_MONTHS, tsl_MONTHS⟩)
    (vz_MONTHS : tit_MONTHS.size ≤ sizeLine)
    (vr_MONTHS : Vals [.int 31, .int 28, .int 31, .int 30, .int 31, .int 30, .int 31, .int 31, .int 30, .int 31, .int 30, .int 31] tit_MONTHS.toList)
    (v_YEAR : PySem.W.nsIn K mainGlobals "YEAR" = some (some (.int 365 t_YEAR)))
    (v_COUNTS : PySem.W.nsIn K mainGlobals "COUNTS" = some (some (.ref ta_COUNTS)))
    (vl_COUNTS : K.lookup ta_COUNTS = some ⟨.type "tuple", tod_COUNTS, .seq tit_COUNTS tn_COUNTS, tsl_COUNTS⟩)
    (vz_COUNTS : tit_COUNTS.size ≤ sizeLine)
    (vr_COUNTS : Vals [.str "fixed", .str "thirty", .str "plain"] tit_COUNTS.toList)
    (g_ConsolError : PySem.W.nsIn K mainGlobals "ConsolError" = some (some (.ref E_ConsolError)))
    (g_DivisionByZero : PySem.W.nsIn K mainGlobals "DivisionByZero" = some (some (.ref E_DivisionByZero)))
    (g_InvalidDay : PySem.W.nsIn K mainGlobals "InvalidDay" = some (some (.ref E_InvalidDay)))
    (g_InvalidWord : PySem.W.nsIn K mainGlobals "InvalidWord" = some (some (.ref E_InvalidWord)))
    (ex_InvalidDay : PySem.W.excIn K E_InvalidDay [.type "ValueError", .type "Exception", .type "BaseException", .type "object"] "ValueError.__new__" = true)
    (ex_DivisionByZero : PySem.W.excIn K E_DivisionByZero [.type "ValueError", .type "Exception", .type "BaseException", .type "object"] "ValueError.__new__" = true)
    (ei_ConsolError : PySem.W.isClsIn K E_ConsolError = true)
    (ei_InvalidWord : PySem.W.isClsIn K E_InvalidWord = true)
    (ei_InvalidDay : PySem.W.isClsIn K E_InvalidDay = true)
    (ek_ConsolError : PySem.W.keepIn K (.ref E_ConsolError) = true)
    (es_ConsolError : PySem.W.subIn K (.ref E_ConsolError) (.type "BaseException") = some true)
    (et_ConsolError : PySem.W.typeIn K (.ref E_ConsolError) = some (.type "type"))
    (ek_DivisionByZero : PySem.W.keepIn K (.ref E_DivisionByZero) = true)
    (es_DivisionByZero : PySem.W.subIn K (.ref E_DivisionByZero) (.type "BaseException") = some true)
    (et_DivisionByZero : PySem.W.typeIn K (.ref E_DivisionByZero) = some (.type "type"))
    (ek_InvalidDay : PySem.W.keepIn K (.ref E_InvalidDay) = true)
    (es_InvalidDay : PySem.W.subIn K (.ref E_InvalidDay) (.type "BaseException") = some true)
    (et_InvalidDay : PySem.W.typeIn K (.ref E_InvalidDay) = some (.type "type"))
    (ek_InvalidWord : PySem.W.keepIn K (.ref E_InvalidWord) = true)
    (es_InvalidWord : PySem.W.subIn K (.ref E_InvalidWord) (.type "BaseException") = some true)
    (et_InvalidWord : PySem.W.typeIn K (.ref E_InvalidWord) = some (.type "type"))
    (xl_InvalidWord : K.lookup E_InvalidWord = some (excClassObj xn_InvalidWord xq_InvalidWord E_InvalidWord xN_InvalidWord xb_InvalidWord xm_InvalidWord true xt_InvalidWord xs_InvalidWord xa_InvalidWord xc_InvalidWord xd_InvalidWord x0_InvalidWord x1_InvalidWord x2_InvalidWord x3_InvalidWord x5_InvalidWord "ValueError.__new__"))
    (xr_InvalidWord : PySem.HandSPX.refsVE xm_InvalidWord = true)
    (xsa_InvalidWord : PySem.W.findIn K (.ref E_InvalidWord) "__setattr__" = some (some (.builtin "object.__setattr__")))
    (p_InvalidWord : PySem.W.findIn K (.ref E_InvalidWord) "__init__" = some (some (.ref I_InvalidWord)))
    (q_InvalidWord : PySem.W.typeIn K (.ref I_InvalidWord) = some (.type "function"))
    (r_InvalidWord_word : PySem.W.findIn K (.ref E_InvalidWord) "word" = some none)
    (il_InvalidWord : K.lookup I_InvalidWord = some ⟨ioc_InvalidWord, iod_InvalidWord, .func (PySem.W.fnOf "__init__" "InvalidWord.__init__" (defArgs i_InvalidWord) (defBody i_InvalidWord) (defScope i_InvalidWord) .none ikV_InvalidWord idc_InvalidWord ipm_InvalidWord ian_InvalidWord icd_InvalidWord ict_InvalidWord), isl_InvalidWord⟩)
    (ic_InvalidWord : PySem.W.codeIn K icd_InvalidWord "InvalidWord.__init__" = true)
    (ik_InvalidWord : PySem.W.keepIn K (.ref I_InvalidWord) = true)
    (z_InvalidDay_ConsolError : PySem.W.subIn K (.ref E_InvalidDay) (.ref E_ConsolError) = some true)
    (z_InvalidDay_InvalidWord : PySem.W.subIn K (.ref E_InvalidDay) (.ref E_InvalidWord) = some false)
    (z_InvalidDay_InvalidDay : PySem.W.subIn K (.ref E_InvalidDay) (.ref E_InvalidDay) = some true)
    (z_DivisionByZero_ConsolError : PySem.W.subIn K (.ref E_DivisionByZero) (.ref E_ConsolError) = some true)
    (z_DivisionByZero_InvalidWord : PySem.W.subIn K (.ref E_DivisionByZero) (.ref E_InvalidWord) = some false)
    (z_DivisionByZero_InvalidDay : PySem.W.subIn K (.ref E_DivisionByZero) (.ref E_InvalidDay) = some false)
    (z_InvalidWord_ConsolError : PySem.W.subIn K (.ref E_InvalidWord) (.ref E_ConsolError) = some true)
    (z_InvalidWord_InvalidWord : PySem.W.subIn K (.ref E_InvalidWord) (.ref E_InvalidWord) = some true)
    (z_InvalidWord_InvalidDay : PySem.W.subIn K (.ref E_InvalidWord) (.ref E_InvalidDay) = some false) :
    ∃ fd : FuncData, (∀ (s : Shared) (u : Value), BindsTo s fd ⟨[u], []⟩ [("_law_script", u)]) ∧ ∀ base : Heap, K.In base → base.Ns mainGlobals mg → FnOk prog w K mg base (L2.CX prog w) 9 fa fd ["_law_script"] (spLaw K) := by
  obtain ⟨fa2, T, _⟩ := mkTxt X G0 a_month_length l_month_length c_month_length k_month_length a_date_of l_date_of c_date_of k_date_of a_day_of l_day_of c_day_of k_day_of a_add_months l_add_months c_add_months k_add_months a_schedule l_schedule c_schedule k_schedule a_fraction l_fraction c_fraction k_fraction lT_fraction dT2_fraction rT_fraction a_plus l_plus c_plus k_plus a_opposite l_opposite c_opposite k_opposite a_minus l_minus c_minus k_minus a_times l_times c_times k_times a_number l_number c_number k_number a_part l_part c_part k_part a_interest l_interest c_interest k_interest a_interests l_interests c_interests k_interests a_law_state l_law_state c_law_state k_law_state a_law_draw l_law_draw c_law_draw k_law_draw a_law_lowest l_law_lowest c_law_lowest k_law_lowest a_law_plus l_law_plus c_law_plus k_law_plus a_law_minus l_law_minus c_law_minus k_law_minus a_law_times l_law_times c_law_times k_law_times a_law_lengths l_law_lengths c_law_lengths k_law_lengths a_law_date l_law_date c_law_date k_law_date a_law_number l_law_number c_law_number k_law_number a_law_part l_law_part c_law_part k_law_part a_law_refuses l_law_refuses c_law_refuses k_law_refuses a_law_fraction l_law_fraction c_law_fraction k_law_fraction a_law l_law c_law k_law n_int n_list n_sum n_min n_range n_len n_abs n_isinstance m_gcd v_MONTHS vl_MONTHS vz_MONTHS vr_MONTHS v_YEAR v_COUNTS vl_COUNTS vz_COUNTS vr_COUNTS g_ConsolError g_DivisionByZero g_InvalidDay g_InvalidWord ex_InvalidDay ex_DivisionByZero ei_ConsolError ei_InvalidWord ei_InvalidDay ek_ConsolError es_ConsolError et_ConsolError ek_DivisionByZero es_DivisionByZero et_DivisionByZero ek_InvalidDay es_InvalidDay et_InvalidDay ek_InvalidWord es_InvalidWord et_InvalidWord xl_InvalidWord xr_InvalidWord xsa_InvalidWord p_InvalidWord q_InvalidWord r_InvalidWord_word il_InvalidWord ic_InvalidWord ik_InvalidWord z_InvalidDay_ConsolError z_InvalidDay_InvalidWord z_InvalidDay_InvalidDay z_DivisionByZero_ConsolError z_DivisionByZero_InvalidWord z_DivisionByZero_InvalidDay z_InvalidWord_ConsolError z_InvalidWord_InvalidWord z_InvalidWord_InvalidDay
  have e : fa = T.a_law := by
    have z := hfa.symm.trans T.h_law.mg
    cases z
    rfl
  subst e
  exact ⟨T.d_law, fun s u => T.h_law.fn.bindsA (ps := ["_law_script"]) (fun _ _ _ _ _ _ us hl => match us, hl with | [_], _ => rfl) s [u] rfl, fun base _ _ => law_imp (ok_law ⟨prog, w, base⟩ T) law_true⟩
end Lw
open PySem PySem.W PyProof.Rows
set_option maxRecDepth 100000 in
set_option maxHeartbeats 0 in
theorem PySem.Challenge.cw_consol_k13_whole_interest_adds_up_holds : PySem.Challenge.rw_consol_k13_whole_interest_adds_up.Holds := by
  w_on; o_law; k_head; (case hw => w_witness2)
  k_fill
  refine L2.walk_ofB (l := PySem.Challenge.rw_consol_k13_whole_interest_adds_up) (n := 63) (k := 9) (x := "_law_script") (CX := fun w => L2.CX PySem.Challenge.rw_consol_k13_whole_interest_adds_up.prog w) (sp := fun w => Mp.spLaw _) rfl (by decide) rfl ⟨rfl, by decide, by decide⟩ (fun w h Y => PySem.W.kIn_of Y) ?F (fun _ _ a ns hl hb ho hS => ⟨a, ns, rfl, hl, hb, Mp.frz_of ho hS, fun _ => rfl⟩) (fun _ _ _ _ _ h => by obtain ⟨_, _, _, _, _, _, _, _, _, _, _, _, z⟩ := h; exact z)
  case F =>
    intro w mg fa h KX G hmg
    refine' Lw.fin KX G hmg ?a_month_length ?l_month_length ?c_month_length ?k_month_length ?a_date_of ?l_date_of ?c_date_of ?k_date_of ?a_day_of ?l_day_of ?c_day_of ?k_day_of ?a_add_months ?l_add_months ?c_add_months ?k_add_months ?a_schedule ?l_schedule ?c_schedule ?k_schedule ?a_fraction ?l_fraction ?c_fraction ?k_fraction ?lT_fraction ?dT2_fraction ?rT_fraction ?a_plus ?l_plus ?c_plus ?k_plus ?a_opposite ?l_opposite ?c_opposite ?k_opposite ?a_minus ?l_minus ?c_minus ?k_minus ?a_times ?l_times ?c_times ?k_times ?a_number ?l_number ?c_number ?k_number ?a_part ?l_part ?c_part ?k_part ?a_interest ?l_interest ?c_interest ?k_interest ?a_interests ?l_interests ?c_interests ?k_interests ?a_law_state ?l_law_state ?c_law_state ?k_law_state ?a_law_draw ?l_law_draw ?c_law_draw ?k_law_draw ?a_law_lowest ?l_law_lowest ?c_law_lowest ?k_law_lowest ?a_law_plus ?l_law_plus ?c_law_plus ?k_law_plus ?a_law_minus ?l_law_minus ?c_law_minus ?k_law_minus ?a_law_times ?l_law_times ?c_law_times ?k_law_times ?a_law_lengths ?l_law_lengths ?c_law_lengths ?k_law_lengths ?a_law_date ?l_law_date ?c_law_date ?k_law_date ?a_law_number ?l_law_number ?c_law_number ?k_law_number ?a_law_part ?l_law_part ?c_law_part ?k_law_part ?a_law_refuses ?l_law_refuses ?c_law_refuses ?k_law_refuses ?a_law_fraction ?l_law_fraction ?c_law_fraction ?k_law_fraction ?a_law ?l_law ?c_law ?k_law ?n_int ?n_list ?n_sum ?n_min ?n_range ?n_len ?n_abs ?n_isinstance ?m_gcd ?v_MONTHS ?vl_MONTHS ?vz_MONTHS ?vr_MONTHS ?v_YEAR ?v_COUNTS ?vl_COUNTS ?vz_COUNTS ?vr_COUNTS ?g_ConsolError ?g_DivisionByZero ?g_InvalidDay ?g_InvalidWord ?ex_InvalidDay ?ex_DivisionByZero ?ei_ConsolError ?ei_InvalidWord ?ei_InvalidDay ?ek_ConsolError ?es_ConsolError ?et_ConsolError ?ek_DivisionByZero ?es_DivisionByZero ?et_DivisionByZero ?ek_InvalidDay ?es_InvalidDay ?et_InvalidDay ?ek_InvalidWord ?es_InvalidWord ?et_InvalidWord ?xl_InvalidWord ?xr_InvalidWord ?xsa_InvalidWord ?p_InvalidWord ?q_InvalidWord ?r_InvalidWord_word ?il_InvalidWord ?ic_InvalidWord ?ik_InvalidWord ?z_InvalidDay_ConsolError ?z_InvalidDay_InvalidWord ?z_InvalidDay_InvalidDay ?z_DivisionByZero_ConsolError ?z_DivisionByZero_InvalidWord ?z_DivisionByZero_InvalidDay ?z_InvalidWord_ConsolError ?z_InvalidWord_InvalidWord ?z_InvalidWord_InvalidDay
    (case a_month_length => k_is)
    (case l_month_length => k_is)
    (case c_month_length => k_is)
    (case k_month_length => k_is)
    (case a_date_of => k_is)
    (case l_date_of => k_is)
    (case c_date_of => k_is)
    (case k_date_of => k_is)
    (case a_day_of => k_is)
    (case l_day_of => k_is)
    (case c_day_of => k_is)
    (case k_day_of => k_is)
    (case a_add_months => k_is)
    (case l_add_months => k_is)
    (case c_add_months => k_is)
    (case k_add_months => k_is)
    (case a_schedule => k_is)
    (case l_schedule => k_is)
    (case c_schedule => k_is)
    (case k_schedule => k_is)
    (case a_fraction => k_is)
    (case l_fraction => k_is)
    (case c_fraction => k_is)
    (case k_fraction => k_is)
    (case lT_fraction => k_is)
    (case dT2_fraction => rfl)
    (case rT_fraction => repeat (first | exact .nil | refine .cons ⟨_, rfl⟩ ?_))
    (case a_plus => k_is)
    (case l_plus => k_is)
    (case c_plus => k_is)
    (case k_plus => k_is)
    (case a_opposite => k_is)
    (case l_opposite => k_is)
    (case c_opposite => k_is)
    (case k_opposite => k_is)
    (case a_minus => k_is)
    (case l_minus => k_is)
    (case c_minus => k_is)
    (case k_minus => k_is)
    (case a_times => k_is)
    (case l_times => k_is)
    (case c_times => k_is)
    (case k_times => k_is)
    (case a_number => k_is)
    (case l_number => k_is)
    (case c_number => k_is)
    (case k_number => k_is)
    (case a_part => k_is)
    (case l_part => k_is)
    (case c_part => k_is)
    (case k_part => k_is)
    (case a_interest => k_is)
    (case l_interest => k_is)
    (case c_interest => k_is)
    (case k_interest => k_is)
    (case a_interests => k_is)
    (case l_interests => k_is)
    (case c_interests => k_is)
    (case k_interests => k_is)
    (case a_law_state => k_is)
    (case l_law_state => k_is)
    (case c_law_state => k_is)
    (case k_law_state => k_is)
    (case a_law_draw => k_is)
    (case l_law_draw => k_is)
    (case c_law_draw => k_is)
    (case k_law_draw => k_is)
    (case a_law_lowest => k_is)
    (case l_law_lowest => k_is)
    (case c_law_lowest => k_is)
    (case k_law_lowest => k_is)
    (case a_law_plus => k_is)
    (case l_law_plus => k_is)
    (case c_law_plus => k_is)
    (case k_law_plus => k_is)
    (case a_law_minus => k_is)
    (case l_law_minus => k_is)
    (case c_law_minus => k_is)
    (case k_law_minus => k_is)
    (case a_law_times => k_is)
    (case l_law_times => k_is)
    (case c_law_times => k_is)
    (case k_law_times => k_is)
    (case a_law_lengths => k_is)
    (case l_law_lengths => k_is)
    (case c_law_lengths => k_is)
    (case k_law_lengths => k_is)
    (case a_law_date => k_is)
    (case l_law_date => k_is)
    (case c_law_date => k_is)
    (case k_law_date => k_is)
    (case a_law_number => k_is)
    (case l_law_number => k_is)
    (case c_law_number => k_is)
    (case k_law_number => k_is)
    (case a_law_part => k_is)
    (case l_law_part => k_is)
    (case c_law_part => k_is)
    (case k_law_part => k_is)
    (case a_law_refuses => k_is)
    (case l_law_refuses => k_is)
    (case c_law_refuses => k_is)
    (case k_law_refuses => k_is)
    (case a_law_fraction => k_is)
    (case l_law_fraction => k_is)
    (case c_law_fraction => k_is)
    (case k_law_fraction => k_is)
    (case a_law => k_is)
    (case l_law => k_is)
    (case c_law => k_is)
    (case k_law => k_is)
    (case n_int => k_is)
    (case n_list => k_is)
    (case n_sum => k_is)
    (case n_min => k_is)
    (case n_range => k_is)
    (case n_len => k_is)
    (case n_abs => k_is)
    (case n_isinstance => k_is)
    (case m_gcd => k_is)
    (case v_MONTHS => k_is)
    (case vl_MONTHS => k_is)
    (case vz_MONTHS => decide +kernel)
    (case vr_MONTHS => repeat (first | exact .nil | refine .cons ⟨_, rfl⟩ ?_))
    (case v_YEAR => k_is)
    (case v_COUNTS => k_is)
    (case vl_COUNTS => k_is)
    (case vz_COUNTS => decide +kernel)
    (case vr_COUNTS => repeat (first | exact .nil | refine .cons ⟨_, rfl⟩ ?_))
    (case g_ConsolError => k_is)
    (case g_DivisionByZero => k_is)
    (case g_InvalidDay => k_is)
    (case g_InvalidWord => k_is)
    (case ex_InvalidDay => k_exc)
    (case ex_DivisionByZero => k_exc)
    (case ei_ConsolError => k_is)
    (case ei_InvalidWord => k_is)
    (case ei_InvalidDay => k_is)
    (case ek_ConsolError => k_is)
    (case es_ConsolError => k_is)
    (case et_ConsolError => k_is)
    (case ek_DivisionByZero => k_is)
    (case es_DivisionByZero => k_is)
    (case et_DivisionByZero => k_is)
    (case ek_InvalidDay => k_is)
    (case es_InvalidDay => k_is)
    (case et_InvalidDay => k_is)
    (case ek_InvalidWord => k_is)
    (case es_InvalidWord => k_is)
    (case et_InvalidWord => k_is)
    (case xl_InvalidWord => k_is)
    (case xr_InvalidWord => decide +kernel)
    (case xsa_InvalidWord => k_is)
    (case p_InvalidWord => k_is)
    (case q_InvalidWord => k_is)
    (case r_InvalidWord_word => k_is)
    (case il_InvalidWord => k_is)
    (case ic_InvalidWord => k_is)
    (case ik_InvalidWord => k_is)
    (case z_InvalidDay_ConsolError => k_is)
    (case z_InvalidDay_InvalidWord => k_is)
    (case z_InvalidDay_InvalidDay => k_is)
    (case z_DivisionByZero_ConsolError => k_is)
    (case z_DivisionByZero_InvalidWord => k_is)
    (case z_DivisionByZero_InvalidDay => k_is)
    (case z_InvalidWord_ConsolError => k_is)
    (case z_InvalidWord_InvalidWord => k_is)
    (case z_InvalidWord_InvalidDay => k_is)

