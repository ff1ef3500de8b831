import PyProof.Rows.All
import Wide.All
import OpenK.AllK
import Wide.FinOn
import HandS.ForMost
import HandS.IsInst
import HandS.Zip
import HandS.TupMul
import HandS.TupAny
import HandS.Deep
import HandS.Lambda
import HandS.Style
import HandS.NoneIn
import PySem.Challenge.RW_lagtalk_k03_stands_of_any_kind
set_option Elab.async false
set_option linter.all false
set_option maxRecDepth 100000
set_option maxHeartbeats 4000000
namespace VS
open PySem PySem.Spec PyProof.Rows L2
abbrev D := PyData

/-! ### immutable data in the abstract heap -/
structure ImKeep (H H' : Hp) : Prop where
  tup : ∀ b xs, H b = some (.tup xs) → H' b = some (.tup xs)
  frz : ∀ b o u, H b = some (.frz o u) → H' b = some (.frz o u)
theorem ImKeep.refl (H : Hp) : ImKeep H H := ⟨fun _ _ h => h, fun _ _ _ h => h⟩
theorem ImKeep.trans {H H1 H2 : Hp} (a : ImKeep H H1) (b : ImKeep H1 H2) : ImKeep H H2 := ⟨fun c xs h => b.tup c xs (a.tup c xs h), fun c o u h => b.frz c o u (a.frz c o u h)⟩
theorem ImKeep.new {H : Hp} {p : Addr} {o : HO} (h : H p = none) : ImKeep H (upd H p o) :=
  ⟨fun b xs e => by rw [upd_ne (ne_of_none e h)]; exact e, fun b ob u e => by rw [upd_ne (ne_of_none e h)]; exact e⟩
theorem ImKeep.mut {H : Hp} {p : Addr} {o u : HO} (h : H p = some u) (mu : Mut (some u)) : ImKeep H (upd H p o) :=
  ⟨fun b xs e => by rw [upd_ne (fun z => by rw [z, h] at e; cases e; exact mu)]; exact e, fun b ob w e => by rw [upd_ne (fun z => by rw [z, h] at e; cases e; exact mu)]; exact e⟩
theorem ImKeep.ofExt {H H' : Hp} (e : LamX.ExtN H H') : ImKeep H H' := ⟨fun b xs h => e b _ h (fun _ z => by cases z), fun b o u h => e b _ h (fun _ z => by cases z)⟩
theorem ImKeep.ofSame {H H' : Hp} (e : Same H H') : ImKeep H H' := ⟨fun b xs h => e b _ h, fun b o u h => e b _ h⟩

/-- a list that never changes any more -/
def FzL (K : PySem.W.Frag) (H : Hp) (a : Addr) (xs : List V) : Prop := (∃ o, H a = some (.frz o (.lst xs))) ∨
  ∃ (its : List Value) (n : Nat), K.lookup a = some { cls := .type "list", data := .seq its.toArray n } ∧ its.length ≤ sizeLine ∧ Vals xs its
theorem FzL.sq {K : PySem.W.Frag} {H : Hp} {a : Addr} {xs : List V} (h : FzL K H a xs) : SqL K H a xs := by
  rcases h with ⟨o, h⟩ | ⟨its, n, h1, h2, h3⟩
  · exact .inl (.inr ⟨o, h⟩)
  · exact .inr ⟨_, its.toArray, n, h1, rfl, rfl, rfl, by simpa using h2, by simpa using h3⟩
theorem FzL.mono {K : PySem.W.Frag} {H H' : Hp} {a : Addr} {xs : List V} (k : ImKeep H H') (h : FzL K H a xs) : FzL K H' a xs := by
  rcases h with ⟨o, h⟩ | h
  · exact .inl ⟨o, k.frz _ _ _ h⟩
  · exact .inr h
theorem sqT_mono {K : PySem.W.Frag} {H H' : Hp} {a : Addr} {xs : List V} (k : ImKeep H H') (h : SqT K H a xs) : SqT K H' a xs := by
  rcases h with (h | ⟨o, h⟩) | h
  · exact .inl (.inl (k.tup _ _ h))
  · exact .inl (.inr ⟨o, k.frz _ _ _ h⟩)
  · exact .inr h

mutual
inductive Im (K : PySem.W.Frag) (H : Hp) : V → D → Prop
  | non : Im K H .non .none
  | bl (b : Bool) : Im K H (.bl b) (.bool b)
  | int (i : Int) : Im K H (.int i) (.int i)
  | str (x : Str) : Im K H (.str x) (.str x)
  | lst {a : Addr} {xs : List V} {ds : List D} : FzL K H a xs → ImAll K H xs ds → Im K H (.ref a) (.list ds)
  | tup {a : Addr} {xs : List V} {ds : List D} : SqT K H a xs → ImAll K H xs ds → Im K H (.ref a) (.tuple ds)
inductive ImAll (K : PySem.W.Frag) (H : Hp) : List V → List D → Prop
  | nil : ImAll K H [] []
  | cons {v : V} {vs : List V} {d : D} {ds : List D} : Im K H v d → ImAll K H vs ds → ImAll K H (v :: vs) (d :: ds)
end
section
variable {K : PySem.W.Frag} {H H' : Hp}
mutual
theorem Im.mono (k : ImKeep H H') : ∀ (d : D) (v : V), Im K H v d → Im K H' v d
  | .none, _, h => by cases h; exact .non
  | .bool b, _, h => by cases h; exact .bl b
  | .int i, _, h => by cases h; exact .int i
  | .str x, _, h => by cases h; exact .str x
  | .list ds, _, h => by
    cases h with
    | lst h1 h2 => exact .lst (h1.mono k) (ImAll.mono k ds _ h2)
  | .tuple ds, _, h => by
    cases h with
    | tup h1 h2 => exact .tup (sqT_mono k h1) (ImAll.mono k ds _ h2)
  | .dict _, _, h => by cases h
theorem ImAll.mono (k : ImKeep H H') : ∀ (ds : List D) (vs : List V), ImAll K H vs ds → ImAll K H' vs ds
  | [], _, h => by cases h; exact .nil
  | d :: ds, _, h => by
    cases h with
    | cons h1 h2 => exact .cons (Im.mono k d _ h1) (ImAll.mono k ds _ h2)
end
theorem Im.up {v : V} {d : D} (h : Im K H v d) (k : ImKeep H H') : Im K H' v d := Im.mono k d v h
theorem ImAll.up {vs : List V} {ds : List D} (h : ImAll K H vs ds) (k : ImKeep H H') : ImAll K H' vs ds := ImAll.mono k ds vs h
theorem ImAll.len : ∀ {vs : List V} {ds : List D}, ImAll K H vs ds → vs.length = ds.length
  | [], [], _ => rfl
  | _ :: _, _ :: _, .cons _ h => by rw [List.length_cons, List.length_cons, h.len]
theorem ImAll.get : ∀ {vs : List V} {ds : List D} {i : Nat} {d : D}, ImAll K H vs ds → ds[i]? = some d → ∃ v, vs[i]? = some v ∧ Im K H v d
  | _, _, i, e, .nil, he => by simp at he
  | v :: vs, d :: ds, 0, e, .cons h1 h2, he => by
    have : d = e := Option.some.inj he
    subst this
    exact ⟨v, rfl, h1⟩
  | v :: vs, d :: ds, i + 1, e, .cons h1 h2, he => by
    obtain ⟨w, e1, e2⟩ := ImAll.get (i := i) h2 he
    exact ⟨w, e1, e2⟩
theorem ImAll.at : ∀ {vs : List V} {ds : List D} {i : Nat} {v : V} {d : D}, ImAll K H vs ds → vs[i]? = some v → ds[i]? = some d → Im K H v d := fun h hv hd => by
  obtain ⟨w, e1, e2⟩ := h.get hd
  rw [hv] at e1
  cases e1
  exact e2
theorem ImAll.append : ∀ {vs ws : List V} {ds es : List D}, ImAll K H vs ds → ImAll K H ws es → ImAll K H (vs ++ ws) (ds ++ es)
  | _, _, _, _, .nil, h => h
  | _, _, _, _, .cons h1 h2, h => .cons h1 (h2.append h)
theorem ImAll.take : ∀ {vs : List V} {ds : List D} (n : Nat), ImAll K H vs ds → ImAll K H (vs.take n) (ds.take n)
  | _, _, 0, _ => .nil
  | _, _, _ + 1, .nil => .nil
  | _, _, n + 1, .cons h1 h2 => .cons h1 (h2.take n)
theorem ImAll.drop : ∀ {vs : List V} {ds : List D} (n : Nat), ImAll K H vs ds → ImAll K H (vs.drop n) (ds.drop n)
  | _, _, 0, h => h
  | _, _, _ + 1, .nil => .nil
  | _, _, n + 1, .cons h1 h2 => h2.drop n
theorem ImAll.set : ∀ {vs : List V} {ds : List D} (n : Nat) {v : V} {d : D}, ImAll K H vs ds → Im K H v d → ImAll K H (vs.set n v) (ds.set n d)
  | _, _, _, _, _, .nil, _ => .nil
  | _, _, 0, _, _, .cons h1 h2, h => .cons h h2
  | _, _, n + 1, _, _, .cons h1 h2, h => .cons h1 (h2.set n h)
theorem ImAll.flat {xs : List V} {ds : List D} (h : ImAll K H xs ds) : ∀ k : Nat, ImAll K H (List.replicate k xs).flatten (List.replicate k ds).flatten
  | 0 => .nil
  | k + 1 => by
    rw [List.replicate_succ, List.replicate_succ, List.flatten_cons, List.flatten_cons]
    exact h.append (h.flat k)
mutual
theorem Im.dp : ∀ (d : D) (v : V), Im K H v d → Dp K H v d
  | .none, _, h => by cases h; exact .non
  | .bool b, _, h => by cases h; exact .bl b
  | .int i, _, h => by cases h; exact .int i
  | .str x, _, h => by cases h; exact .str x
  | .list ds, _, h => by
    cases h with
    | lst h1 h2 => exact .lst h1.sq (ImAll.dp ds _ h2)
  | .tuple ds, _, h => by
    cases h with
    | tup h1 h2 => exact .tup h1 (ImAll.dp ds _ h2)
  | .dict _, _, h => by cases h
theorem ImAll.dp : ∀ (ds : List D) (vs : List V), ImAll K H vs ds → DpAll K H vs ds
  | [], _, h => by cases h; exact .nil
  | d :: ds, _, h => by
    cases h with
    | cons h1 h2 => exact .cons (Im.dp d _ h1) (ImAll.dp ds _ h2)
end
/-! inversions -/
theorem Im.ofInt {v : V} {i : Int} (h : Im K H v (.int i)) : v = .int i := by cases h; rfl
theorem Im.ofBool {v : V} {b : Bool} (h : Im K H v (.bool b)) : v = .bl b := by cases h; rfl
theorem Im.ofStr {v : V} {x : Str} (h : Im K H v (.str x)) : v = .str x := by cases h; rfl
theorem Im.ofNone {v : V} (h : Im K H v .none) : v = .non := by cases h; rfl
theorem Im.ofTup {v : V} {ds : List D} (h : Im K H v (.tuple ds)) : ∃ a xs, v = .ref a ∧ SqT K H a xs ∧ ImAll K H xs ds := by cases h with | tup h1 h2 => exact ⟨_, _, rfl, h1, h2⟩
theorem Im.ofLst {v : V} {ds : List D} (h : Im K H v (.list ds)) : ∃ a xs, v = .ref a ∧ FzL K H a xs ∧ ImAll K H xs ds := by cases h with | lst h1 h2 => exact ⟨_, _, rfl, h1, h2⟩
end

/-! ### the slots' meanings -/
/-- what a slot means: data, or a list of data that belongs to this slot alone -/
inductive SV where
  | dat (d : D)
  | ol (ds : List D)
abbrev Rho := List (Option SV)

inductive RelS (K : PySem.W.Frag) (H : Hp) : V → SV → List Addr → Prop
  | dat {v : V} {d : D} : Im K H v d → RelS K H v (.dat d) []
  | ol {a : Addr} {xs : List V} {ds : List D} : H a = some (.lst xs) → ImAll K H xs ds → RelS K H (.ref a) (.ol ds) [a]
theorem RelS.mut {K : PySem.W.Frag} {H : Hp} {v : V} {sv : SV} {own : List Addr} (h : RelS K H v sv own) : ∀ a ∈ own, ∃ o, H a = some o ∧ Mut (some o) := by
  cases h with
  | dat _ => intro a z; cases z
  | ol e _ => intro a z; rw [List.mem_singleton.mp z]; exact ⟨_, e, trivial⟩

abbrev Tb := List (Addr × Str)
/-- what a step leaves: all that was tracked, but what stands at B and the tables -/
structure Kp (T : Tb) (B : Addr → Prop) (H H' : Hp) : Prop where
  tbl : ∀ b ps, H b = some (.tbl ps) → ∃ more, H' b = some (.tbl (ps ++ more))
  ext : ∀ b o, H b = some o → ¬ B b → (∀ ps, o ≠ .tbl ps) → H' b = some o
  there : ∀ b o, H b = some o → ∃ o', H' b = some o'
  imm : ImKeep H H'
  tb : LamX.Tabs T H → LamX.Tabs T H'
abbrev B0 : Addr → Prop := fun _ => False
abbrev B1 (a : Addr) : Addr → Prop := fun b => b = a
section
variable {T : Tb} {B B' : Addr → Prop} {H H1 H2 H' : Hp}
theorem Kp.refl (T : Tb) (B : Addr → Prop) (H : Hp) : Kp T B H H := ⟨fun b ps h => ⟨#[], by simpa using h⟩, fun _ _ h _ _ => h, fun _ o h => ⟨o, h⟩, ImKeep.refl H, fun h => h⟩
theorem Kp.ofSame (e : Same H H') : Kp T B H H' := ⟨fun b ps h => ⟨#[], by simpa using e b _ h⟩, fun b o h _ _ => e b o h, fun b o h => ⟨o, e b o h⟩, .ofSame e, fun t => LamX.Tabs.ext t e⟩
/-- one behind another: what the second may change was the first's to change, or was not there -/
theorem Kp.trans (a : Kp T B H H1) (b : Kp T B' H1 H2) (h : ∀ c, B' c → B c ∨ H c = none) : Kp T B H H2 :=
  ⟨fun c ps h => by
    obtain ⟨m1, h1⟩ := a.tbl c ps h
    obtain ⟨m2, h2⟩ := b.tbl c _ h1
    exact ⟨m1 ++ m2, by rw [h2, Array.append_assoc]⟩, fun c o e n m => b.ext c o (a.ext c o e n m) (fun z => (h c z).elim n (fun q => by rw [q] at e; cases e)) m, fun c o e => by
    obtain ⟨o1, e1⟩ := a.there c o e
    exact b.there c o1 e1, a.imm.trans b.imm, fun h => b.tb (a.tb h)⟩
theorem Kp.sub (a : Kp T B H H') (h : ∀ b, B b → B' b ∨ H b = none) : Kp T B' H H' :=
  ⟨a.tbl, fun b o e n m => a.ext b o e (fun z => (h b z).elim n (fun q => by rw [q] at e; cases e)) m, a.there, a.imm, a.tb⟩
theorem Kp.new {p : Addr} {o : HO} (h : H p = none) : Kp T B H (upd H p o) := .ofSame fun b u e => by rw [upd_ne (ne_of_none e h)]; exact e
theorem Kp.free (a : Kp T B H H') {p : Addr} (h : H' p = none) : H p = none := by
  cases q : H p with
  | none => rfl
  | some o =>
    obtain ⟨o', e⟩ := a.there p o q
    rw [h] at e
    cases e
/-- a mutable thing is written -/
theorem Kp.write {a : Addr} {u o : HO} (h : H a = some u) (mu : Mut (some u)) (ht : ∀ q, u ≠ LamX.CodeO a q) : Kp T (B1 a) H (upd H a o) :=
  ⟨fun b ps e => ⟨#[], by rw [upd_ne (fun z => by rw [z, h] at e; cases e; exact mu)]; simpa using e⟩, fun b w e n _ => by rw [upd_ne n]; exact e, fun b w e => by
    by_cases z : b = a
    · exact ⟨o, by rw [z, upd_same]⟩
    · exact ⟨w, by rw [upd_ne z]; exact e⟩, .mut h mu, fun t p hp => by
      obtain ⟨ps, t1, t2, t3⟩ := t p hp
      refine ⟨ps, by rw [upd_ne (fun z => by rw [z, h] at t1; cases t1; exact mu)]; exact t1, t2, fun pos cv hc => ?_⟩
      obtain ⟨c, c1, c2⟩ := t3 pos cv hc
      refine ⟨c, c1, ?_⟩
      rw [upd_ne (fun z => by rw [z, h] at c2; exact ht _ (Option.some.inj c2))]
      exact c2⟩
end
theorem lst_code {xs : List V} {a : Addr} : ∀ q, HO.lst xs ≠ LamX.CodeO a q := fun q z => by unfold LamX.CodeO at z; cases z

/-- T: the tables of code objects; n: how many slots; pn: the first slots, whose names are not stored -/
structure Gx where
  T : Tb
  n : Nat
  pn : Nat
def okSlot (g : Gx) (i : Nat) : Bool := decide (i < g.n) && decide (g.pn ≤ i)
theorem okSlot.lt {g : Gx} {i : Nat} (h : okSlot g i = true) : i < g.n := by
  unfold okSlot at h
  simp at h
  exact h.1
theorem okSlot.le {g : Gx} {i : Nat} (h : okSlot g i = true) : g.pn ≤ i := by
  unfold okSlot at h
  simp at h
  exact h.2
abbrev Own := Nat → List Addr
abbrev InO (own : Own) (a : Addr) : Prop := ∃ i, a ∈ own i
def Holds (K : PySem.W.Frag) (H : Hp) (v : Option (Option V)) (sv : Option (Option SV)) (own : List Addr) : Prop := match sv with
  | some (some sv) => ∃ w, v = some (some w) ∧ RelS K H w sv own
  | _ => own = []
structure RelE (K : PySem.W.Frag) (g : Gx) (σ : L2.St) (ρ : Rho) (own : Own) (H : Hp) : Prop where
  tb : LamX.Tabs g.T H
  len : σ.length = g.n
  dj : ∀ i j a, a ∈ own i → a ∈ own j → i = j
  ct : ∀ i : Nat, Holds K H σ[i]? ρ[i]? (own i)
/-- a step -/
structure Go (K : PySem.W.Frag) (g : Gx) (σ : L2.St) (own : Own) (H : Hp) (σ' : L2.St) (ρ' : Rho) (own' : Own) (H' : Hp) : Prop where
  kp : Kp g.T (InO own) H H'
  sub : ∀ a, InO own' a → InO own a ∨ H a = none
  pin : ∀ j, j < g.pn → σ'[j]? = σ[j]?
  rel : RelE K g σ' ρ' own' H'
section
variable {K : PySem.W.Frag} {g : Gx} {σ σ1 σ2 : L2.St} {ρ ρ1 ρ2 : Rho} {own own1 own2 : Own} {H H1 H2 H' : Hp}
theorem Go.refl (r : RelE K g σ ρ own H) : Go K g σ own H σ ρ own H := ⟨Kp.refl _ _ _, fun _ h => .inl h, fun _ _ => rfl, r⟩
theorem Go.trans (a : Go K g σ own H σ1 ρ1 own1 H1) (b : Go K g σ1 own1 H1 σ2 ρ2 own2 H2) : Go K g σ own H σ2 ρ2 own2 H2 :=
  ⟨a.kp.trans b.kp a.sub, fun c h => (b.sub c h).elim (a.sub c) (fun z => .inr (a.kp.free z)), fun j h => (b.pin j h).trans (a.pin j h), b.rel⟩
theorem Go.im (a : Go K g σ own H σ1 ρ1 own1 H1) {v : V} {d : D} (h : Im K H v d) : Im K H1 v d := h.up a.kp.imm
theorem Go.ims (a : Go K g σ own H σ1 ρ1 own1 H1) {v : List V} {d : List D} (h : ImAll K H v d) : ImAll K H1 v d := h.up a.kp.imm
theorem RelE.mut (r : RelE K g σ ρ own H) {a : Addr} (h : InO own a) : ∃ o, H a = some o ∧ Mut (some o) := by
  obtain ⟨i, hi⟩ := h
  have c := r.ct i
  unfold Holds at c
  split at c
  · obtain ⟨w, _, rs⟩ := c
    exact rs.mut a hi
  · rw [c] at hi
    cases hi
theorem RelE.notIn (r : RelE K g σ ρ own H) {a : Addr} (h : H a = none) : ¬ InO own a := fun z => by
  obtain ⟨o, e, _⟩ := r.mut z
  rw [h] at e
  cases e
theorem RelS.keep {v : V} {sv : SV} {ow : List Addr} (h : RelS K H v sv ow) (k : Kp g.T B0 H H') : RelS K H' v sv ow := by
  cases h with
  | dat h => exact .dat (h.up k.imm)
  | ol h1 h2 => exact .ol (k.ext _ _ h1 (fun z => z) (fun _ z => by cases z)) (h2.up k.imm)
theorem Holds.map {v : Option (Option V)} {sv : Option (Option SV)} {ow : List Addr} (h : Holds K H v sv ow) (f : ∀ w s, RelS K H w s ow → RelS K H' w s ow) : Holds K H' v sv ow := by
  unfold Holds at h ⊢
  split at h
  · obtain ⟨w, e, r⟩ := h
    exact ⟨w, e, f w _ r⟩
  · exact h
/-- nothing that belongs to a slot is changed -/
theorem RelE.keep (r : RelE K g σ ρ own H) (k : Kp g.T B0 H H') : RelE K g σ ρ own H' := ⟨k.tb r.tb, r.len, r.dj, fun i => (r.ct i).map fun w s h => h.keep k⟩
theorem RelE.go (r : RelE K g σ ρ own H) (k : Kp g.T B0 H H') : Go K g σ own H σ ρ own H' := ⟨k.sub (fun _ z => z.elim), fun _ h => .inl h, fun _ _ => rfl, r.keep k⟩
theorem RelE.goSame (r : RelE K g σ ρ own H) (e : Same H H') : Go K g σ own H σ ρ own H' := r.go (.ofSame e)
theorem RelE.goNew (r : RelE K g σ ρ own H) {p : Addr} {o : HO} (h : H p = none) : Go K g σ own H σ ρ own (upd H p o) := r.go (.new h)
/-- what belongs to none of the slots is written -/
theorem RelE.off (r : RelE K g σ ρ own H) {a : Addr} (n : ¬ InO own a) (k : Kp g.T (B1 a) H H') : RelE K g σ ρ own H' := by
  refine ⟨k.tb r.tb, r.len, r.dj, fun i => (r.ct i).map fun w s rs => ?_⟩
  generalize hoi : own i = oi at rs
  cases rs with
  | dat q => exact .dat (q.up k.imm)
  | ol q1 q2 => exact .ol (k.ext _ _ q1 (fun z => n ⟨i, by rw [hoi, z]; simp⟩) (fun _ z => by cases z)) (q2.up k.imm)
/-- the own lists of slot i are these from now on -/
def Own.set (own : Own) (i : Nat) (l : List Addr) : Own := fun j => if j = i then l else own j
theorem Own.set_i {i : Nat} {l : List Addr} : own.set i l i = l := if_pos rfl
theorem Own.set_ne {i j : Nat} {l : List Addr} (h : j ≠ i) : own.set i l j = own j := if_neg h
/-- a slot takes a meaning -/
theorem RelE.put (r : RelE K g σ ρ own H) {i : Nat} {v : V} {sv : SV} {ow : List Addr} (hk : okSlot g i = true) (h : RelS K H v sv ow) (hd : ∀ a ∈ ow, ∀ j, j ≠ i → a ∉ own j) :
    RelE K g (σ.set i (some v)) (ρ.set i (some sv)) (own.set i (if i < ρ.length then ow else [])) H := by
  have hi : i < σ.length := by rw [r.len]; exact okSlot.lt hk
  refine ⟨r.tb, (List.length_set ..).trans r.len, fun j l a hj hl => ?_, fun j => ?_⟩
  · by_cases ej : j = i
    · subst ej
      rw [Own.set_i] at hj
      by_cases el : l = j
      · exact el.symm
      · rw [Own.set_ne el] at hl
        split at hj
        · exact absurd hl (hd a hj l el)
        · cases hj
    · rw [Own.set_ne ej] at hj
      by_cases el : l = i
      · subst el
        rw [Own.set_i] at hl
        split at hl
        · exact absurd hj (hd a hl j ej)
        · cases hl
      · rw [Own.set_ne el] at hl
        exact r.dj j l a hj hl
  · by_cases ej : j = i
    · subst ej
      rw [Own.set_i]
      by_cases hl : j < ρ.length
      · rw [if_pos hl, List.getElem?_set_self hl, List.getElem?_set_self hi]
        exact ⟨v, rfl, h⟩
      · have e : (ρ.set j (some sv))[j]? = none := List.getElem?_eq_none (by rw [List.length_set]; omega)
        rw [if_neg hl, e]
        rfl
    · rw [Own.set_ne ej, List.getElem?_set_ne (Ne.symm ej), List.getElem?_set_ne (Ne.symm ej)]
      exact r.ct j
theorem set_sub {i : Nat} {ow : List Addr} {a : Addr} (h : InO (own.set i ow) a) : InO own a ∨ a ∈ ow := by
  obtain ⟨j, hj⟩ := h
  by_cases e : j = i
  · rw [e, Own.set_i] at hj
    exact .inr hj
  · rw [Own.set_ne e] at hj
    exact .inl ⟨j, hj⟩
theorem if_mem {c : Prop} [Decidable c] {ow : List Addr} {a : Addr} (h : a ∈ (if c then ow else [])) : a ∈ ow := by
  split at h
  · exact h
  · cases h
/-- a name is stored: data -/
theorem RelE.set (r : RelE K g σ ρ own H) {i : Nat} {v : V} {d : D} (hk : okSlot g i = true) (h : Im K H v d) : ∃ own', Go K g σ own H (σ.set i (some v)) (ρ.set i (some (.dat d))) own' H :=
  ⟨_, ⟨Kp.refl _ _ _, fun a z => (set_sub z).elim .inl (fun z => absurd (if_mem z) (by simp)), fun j hj => List.getElem?_set_ne (by have := okSlot.le hk; omega), r.put hk (.dat h) (fun a z => absurd z (by simp))⟩⟩
/-- a new list -/
theorem RelE.setO (r : RelE K g σ ρ own H) {i : Nat} {p : Addr} {xs : List V} {es : List D} (hk : okSlot g i = true) (k : Kp g.T B0 H H1) (hn : H p = none) (hp : H1 p = some (.lst xs)) (h : ImAll K H1 xs es) :
    ∃ own', Go K g σ own H (σ.set i (some (.ref p))) (ρ.set i (some (.ol es))) own' H1 :=
  ⟨_, ⟨k.sub (fun _ z => z.elim), fun a z => (set_sub z).elim .inl (fun z => .inr (by rw [List.mem_singleton.mp (if_mem z)]; exact hn)), fun j hj => List.getElem?_set_ne (by have := okSlot.le hk; omega),
    (r.keep k).put hk (.ol hp h) (fun a z j _ hj => r.notIn hn ⟨j, by rw [List.mem_singleton.mp z] at hj; exact hj⟩)⟩⟩
theorem RelE.dat (r : RelE K g σ ρ own H) {j : Nat} {d : D} (h : ρ[j]? = some (some (.dat d))) : ∃ v, σ[j]? = some (some v) ∧ Im K H v d := by
  have c := r.ct j
  rw [h] at c
  obtain ⟨v, e, rs⟩ := c
  generalize own j = oj at rs
  cases rs with
  | dat i => exact ⟨v, e, i⟩
theorem RelE.ownAt (r : RelE K g σ ρ own H) {j : Nat} {es : List D} (h : ρ[j]? = some (some (.ol es))) : ∃ a xs, σ[j]? = some (some (.ref a)) ∧ H a = some (.lst xs) ∧ ImAll K H xs es ∧ own j = [a] := by
  have c := r.ct j
  rw [h] at c
  obtain ⟨v, e, rs⟩ := c
  generalize ho : own j = oj at rs
  cases rs with
  | ol i1 i2 => exact ⟨_, _, e, i1, i2, rfl⟩
/-- slot j's own list at a is changed (to a list, or to something frozen) -/
theorem RelE.turn (r : RelE K g σ ρ own H) {j : Nat} {es : List D} {a : Addr} {sv : SV} {ow : List Addr} (h : ρ[j]? = some (some (.ol es))) (hs : σ[j]? = some (some (.ref a))) (k : Kp g.T (B1 a) H H') (h1 : RelS K H' (.ref a) sv ow) (ho : ∀ b ∈ ow, b = a) :
    Go K g σ own H σ (ρ.set j (some sv)) (own.set j ow) H' := by
  obtain ⟨a', xs, e1, e2, e3, e4⟩ := r.ownAt h
  rw [hs] at e1
  cases e1
  have hin : InO own a := ⟨j, by rw [e4]; simp⟩
  have hl : j < ρ.length := (List.getElem?_eq_some_iff.mp h).1
  refine ⟨k.sub (fun b z => .inl (by rw [z]; exact hin)), fun b z => (set_sub z).elim .inl (fun z => .inl (by rw [ho b z]; exact hin)), fun _ _ => rfl, k.tb r.tb, r.len, fun i l b hi hl => ?_, fun i => ?_⟩
  · by_cases ei : i = j
    · subst ei
      rw [Own.set_i] at hi
      by_cases el : l = i
      · exact el.symm
      · rw [Own.set_ne el] at hl
        rw [ho b hi] at hl
        exact (r.dj l i a hl (by rw [e4]; simp)).symm
    · rw [Own.set_ne ei] at hi
      by_cases el : l = j
      · subst el
        rw [Own.set_i] at hl
        rw [ho b hl] at hi
        exact r.dj i l a hi (by rw [e4]; simp)
      · rw [Own.set_ne el] at hl
        exact r.dj i l b hi hl
  · by_cases ei : i = j
    · subst ei
      rw [Own.set_i, List.getElem?_set_self hl, hs]
      exact ⟨_, rfl, h1⟩
    · rw [Own.set_ne ei, List.getElem?_set_ne (Ne.symm ei)]
      refine (r.ct i).map fun w s rs => ?_
      generalize hoi : own i = oi at rs
      cases rs with
      | dat q => exact .dat (q.up k.imm)
      | ol q1 q2 => exact .ol (k.ext _ _ q1 (fun z => ei (r.dj i j a (by rw [hoi, z]; simp) (by rw [e4]; simp))) (fun _ z => by cases z)) (q2.up k.imm)
/-- the list of slot j is changed -/
theorem RelE.change (r : RelE K g σ ρ own H) {j : Nat} {es es' : List D} {a : Addr} {xs' : List V} (h : ρ[j]? = some (some (.ol es))) (hs : σ[j]? = some (some (.ref a))) (k : Kp g.T (B1 a) H H') (h1 : H' a = some (.lst xs')) (h2 : ImAll K H' xs' es') :
    ∃ own', Go K g σ own H σ (ρ.set j (some (.ol es'))) own' H' := ⟨_, r.turn h hs k (.ol h1 h2) (fun b z => List.mem_singleton.mp z)⟩
/-- the list of slot j is data from now on -/
theorem RelE.freeze (r : RelE K g σ ρ own H) {j : Nat} {es : List D} {a : Addr} {xs : List V} (h : ρ[j]? = some (some (.ol es))) (hs : σ[j]? = some (some (.ref a))) (h1 : H a = some (.lst xs)) (h2 : ImAll K H xs es) (o : Obj) :
    (∃ own', Go K g σ own H σ (ρ.set j (some (.dat (.list es)))) own' (upd H a (.frz o (.lst xs)))) ∧ Im K (upd H a (.frz o (.lst xs))) (.ref a) (.list es) := by
  have im : Im K (upd H a (.frz o (.lst xs))) (.ref a) (.list es) := .lst (.inl ⟨o, upd_same⟩) (h2.up (.mut h1 trivial))
  exact ⟨⟨_, r.turn h hs (.write h1 trivial lst_code) (.dat im) (fun b z => absurd z (by simp))⟩, im⟩
end
end VS

namespace VS
open PySem PySem.Spec PyProof.Rows L2

/-! ### meanings -/
abbrev M (α : Type) := Rho → Option (α × Rho)
def eVar (i : Nat) : M D := fun ρ => match ρ[i]? with
  | some (some (.dat d)) => some (d, ρ)
  | _ => none
def eC (d : D) : M D := fun ρ => some (d, ρ)
def e1 {α β : Type} (op : α → Option β) (a : M α) : M β := fun ρ => match a ρ with
  | some (x, ρ1) => (match op x with | some z => some (z, ρ1) | none => none)
  | none => none
def e2 (op : D → D → Option D) (a b : M D) : M D := fun ρ => match a ρ with
  | some (x, ρ1) => (match b ρ1 with
    | some (y, ρ2) => (match op x y with | some z => some (z, ρ2) | none => none)
    | none => none)
  | none => none
def eIf (c : M Bool) (a b : M D) : M D := fun ρ => match c ρ with
  | some (true, ρ1) => a ρ1
  | some (false, ρ1) => b ρ1
  | none => none
def asB : D → Option Bool
  | .bool b => some b
  | _ => none
def eAnd (a b : M D) : M D := fun ρ => match a ρ with
  | some (.bool true, ρ1) => b ρ1
  | some (.bool false, ρ1) => some (.bool false, ρ1)
  | _ => none
def eOr (a b : M D) : M D := fun ρ => match a ρ with
  | some (.bool true, ρ1) => some (.bool true, ρ1)
  | some (.bool false, ρ1) => b ρ1
  | _ => none
def tAndM (a b : M Bool) : M Bool := fun ρ => match a ρ with
  | some (true, ρ1) => b ρ1
  | some (false, ρ1) => some (false, ρ1)
  | none => none
def tOrM (a b : M Bool) : M Bool := fun ρ => match a ρ with
  | some (true, ρ1) => some (true, ρ1)
  | some (false, ρ1) => b ρ1
  | none => none
def dNot : D → Option D
  | .bool b => some (.bool (!b))
  | _ => none
def tNotB : Bool → Option Bool := fun b => some (!b)
def aNil : M (List D) := fun ρ => some ([], ρ)
def aCons (a : M D) (b : M (List D)) : M (List D) := fun ρ => match a ρ with
  | some (x, ρ1) => (match b ρ1 with | some (xs, ρ2) => some (x :: xs, ρ2) | none => none)
  | none => none

/-! ### readings by meanings -/
def xE (K : PySem.W.Frag) (g : Gx) (f : M D) : TE := fun σ H Q => ∃ ρ own d ρ', f ρ = some (d, ρ') ∧ RelE K g σ ρ own H ∧ ∀ v own' H', Go K g σ own H σ ρ' own' H' → Im K H' v d → Q v H'
def xT (K : PySem.W.Frag) (g : Gx) (f : M Bool) : TT := fun σ H Q => ∃ ρ own b ρ', f ρ = some (b, ρ') ∧ RelE K g σ ρ own H ∧ ∀ own' H', Go K g σ own H σ ρ' own' H' → Q b H'
def xA (K : PySem.W.Frag) (g : Gx) (f : M (List D)) : TA := fun σ H Q => ∃ ρ own ds ρ', f ρ = some (ds, ρ') ∧ RelE K g σ ρ own H ∧ ∀ vs own' H', Go K g σ own H σ ρ' own' H' → ImAll K H' vs ds → Q vs H'
abbrev QE (X : Cx) (g : Gx) (e : Expr) (f : M D) : Prop := PE X e (xE X.K g f)
abbrev QT (X : Cx) (g : Gx) (e : Expr) (f : M Bool) : Prop := PT X e (xT X.K g f)
abbrev QA (X : Cx) (g : Gx) (es : List Expr) (f : M (List D)) : Prop := PA X es (xA X.K g f)
/-- and, or of any length -/
abbrev QW (X : Cx) (g : Gx) (e : Expr) (f : M Bool) : Prop := PW X e (xT X.K g f)

theorem pe_conv {X : Cx} {e : Expr} {t t' : TE} (h : PE X e t) (c : ∀ σ H Q, t' σ H Q → t σ H Q) : PE X e t' := ⟨fun pins s σ H Q I q => h.run pins s σ H Q I (c σ H Q q)⟩
theorem pt_conv {X : Cx} {e : Expr} {t t' : TT} (h : PT X e t) (c : ∀ σ H Q, t' σ H Q → t σ H Q) : PT X e t' := ⟨fun pins s σ H Q I q => h.run pins s σ H Q I (c σ H Q q)⟩
theorem pw_conv {X : Cx} {e : Expr} {t t' : TT} (h : PW X e t) (c : ∀ σ H Q, t' σ H Q → t σ H Q) : PW X e t' := ⟨fun wh pins s σ H Q I q => h.run wh pins s σ H Q I (c σ H Q q)⟩
theorem pa_conv {X : Cx} {es : List Expr} {t t' : TA} (h : PA X es t) (c : ∀ σ H Q, t' σ H Q → t σ H Q) : PA X es t' := ⟨fun pos pins s σ H Q I q => h.run pos pins s σ H Q I (c σ H Q q)⟩

/-! ### a new list is frozen -/
/-- the end Q, or a new list that Q wants frozen -/
def Fin (v : V) (H : Hp) (Q : VK) : Prop := Q v H ∨ ∃ a xs, v = .ref a ∧ H a = some (.lst xs) ∧ ∀ o, Q v (upd H a (.frz o (.lst xs)))
theorem ep_fin {X : Cx} {pins : List (Addr × Obj)} {σ : L2.St} {Q : VK} {u : Value} {s : Shared} (h : EP X pins σ (fun v H => Fin v H Q) u s) : EP X pins σ Q u s := by
  obtain ⟨v, H, I, r, h⟩ := h
  rcases h with h | ⟨a, xs, rfl, e, h⟩
  · exact ⟨v, H, I, r, h⟩
  · obtain ⟨o, I2⟩ := I.lock e trivial
    exact ⟨_, _, I2, r, h o⟩
def tFz (t : TE) : TE := fun σ H Q => t σ H fun v H1 => Fin v H1 Q
theorem pe_fz {X : Cx} {e : Expr} {t : TE} (h : PE X e t) : PE X e (tFz t) := ⟨fun pins s σ H Q I q => thn (h.run pins s σ H _ I q) fun _ _ q => ep_fin q⟩

/-- what an operation on data gives -/
def Out (K : PySem.W.Frag) (H : Hp) (d : D) (Q : VK) : Prop := ∀ v H', Same H H' → Im K H' v d → Q v H'
theorem Out.same {K : PySem.W.Frag} {H : Hp} {d : D} {Q : VK} (q : Out K H d Q) {v : V} (h : Im K H v d) : Fin v H Q := .inl (q v H (Same.refl H) h)
theorem Out.lst {K : PySem.W.Frag} {H : Hp} {ds : List D} {Q : VK} (q : Out K H (.list ds) Q) {p : Addr} {xs : List V} (hn : H p = none) (h : ImAll K H xs ds) : Fin (.ref p) (upd H p (.lst xs)) Q := by
  refine .inr ⟨p, xs, rfl, upd_same, fun o => ?_⟩
  rw [upd_upd]
  exact q _ _ (fun b u e => by rw [upd_ne (ne_of_none e hn)]; exact e) (.lst (.inl ⟨o, upd_same⟩) (h.up (.new hn)))
theorem Out.tup {K : PySem.W.Frag} {H : Hp} {ds : List D} {Q : VK} (q : Out K H (.tuple ds) Q) {p : Addr} {xs : List V} (hn : H p = none) (h : ImAll K H xs ds) : Fin (.ref p) (upd H p (.tup xs)) Q :=
  .inl (q _ _ (fun b u e => by rw [upd_ne (ne_of_none e hn)]; exact e) (.tup (.of upd_same) (h.up (.new hn))))
theorem Out.int {K : PySem.W.Frag} {H : Hp} {i : Int} {Q : VK} (q : Out K H (.int i) Q) : Fin (.int i) H Q := q.same (.int i)
theorem Out.bl {K : PySem.W.Frag} {H : Hp} {b : Bool} {Q : VK} (q : Out K H (.bool b) Q) : Fin (.bl b) H Q := q.same (.bl b)
theorem Out.str {K : PySem.W.Frag} {H : Hp} {x : Str} {Q : VK} (q : Out K H (.str x) Q) : Fin (.str x) H Q := q.same (.str x)

section
variable {X : Cx} {g : Gx} {a b c e : Expr} {fa fb fc : M D} {pos : Pos}

/-- an operation of one, of two values -/
def Op2 (X : Cx) (op : Value → Value → Sem Value) (f : D → D → Option D) : Prop := ∃ r, OpR X op r ∧ ∀ x y dx dy dz H Q, Im X.K H x dx → Im X.K H y dy → f dx dy = some dz → Out X.K H dz Q → r x y H fun v H' => Fin v H' Q
def Ix2 (X : Cx) (f : D → D → Option D) : Prop := ∃ r, IxR X r ∧ ∀ x y dx dy dz H Q, Im X.K H x dx → Im X.K H y dy → f dx dy = some dz → Out X.K H dz Q → r x y H fun v H' => Fin v H' Q
def Un1 (X : Cx) (op : Value → Sem Value) (f : D → Option D) : Prop := ∃ r, UnR X op r ∧ ∀ x dx dz H Q, Im X.K H x dx → f dx = some dz → Out X.K H dz Q → r x H fun v H' => Fin v H' Q
def Fn1 (X : Cx) (fn : Value) (f : List D → Option D) : Prop := ∃ r, CallR X fn r ∧ ∀ vs ds dz H Q, ImAll X.K H vs ds → f ds = some dz → Out X.K H dz Q → r vs H fun v H' => Fin v H' Q

theorem e2_some {op : D → D → Option D} {fa fb : M D} {ρ ρ' : Rho} {d : D} (h : e2 op fa fb ρ = some (d, ρ')) : ∃ x ρ1 y, fa ρ = some (x, ρ1) ∧ fb ρ1 = some (y, ρ') ∧ op x y = some d := by
  unfold e2 at h
  cases h1 : fa ρ with
  | none => rw [h1] at h; cases h
  | some p =>
    obtain ⟨x, ρ1⟩ := p
    rw [h1] at h
    cases h2 : fb ρ1 with
    | none => simp only [h2] at h; cases h
    | some q =>
      obtain ⟨y, ρ2⟩ := q
      simp only [h2] at h
      cases h3 : op x y with
      | none => simp only [h3] at h; cases h
      | some z =>
        simp only [h3] at h
        cases h
        exact ⟨x, ρ1, y, rfl, h2, h3⟩
theorem e1_some {α β : Type} {op : α → Option β} {fa : M α} {ρ ρ' : Rho} {d : β} (h : e1 op fa ρ = some (d, ρ')) : ∃ x, fa ρ = some (x, ρ') ∧ op x = some d := by
  unfold e1 at h
  cases h1 : fa ρ with
  | none => rw [h1] at h; cases h
  | some p =>
    obtain ⟨x, ρ1⟩ := p
    rw [h1] at h
    cases h3 : op x with
    | none => simp only [h3] at h; cases h
    | some z =>
      simp only [h3] at h
      cases h
      exact ⟨x, rfl, h3⟩
theorem aCons_some {fa : M D} {fb : M (List D)} {ρ ρ' : Rho} {ds : List D} (h : aCons fa fb ρ = some (ds, ρ')) : ∃ x ρ1 xs, fa ρ = some (x, ρ1) ∧ fb ρ1 = some (xs, ρ') ∧ ds = x :: xs := by
  unfold aCons at h
  cases h1 : fa ρ with
  | none => rw [h1] at h; cases h
  | some p =>
    obtain ⟨x, ρ1⟩ := p
    rw [h1] at h
    cases h2 : fb ρ1 with
    | none => simp only [h2] at h; cases h
    | some q =>
      obtain ⟨y, ρ2⟩ := q
      simp only [h2] at h
      cases h
      exact ⟨x, ρ1, y, rfl, h2, rfl⟩
/-- two values one behind the other, then an operation -/
theorem two_of {op : D → D → Option D} {r : R2} {K : PySem.W.Frag} (hr : ∀ x y dx dy dz H Q, Im K H x dx → Im K H y dy → op dx dy = some dz → Out K H dz Q → r x y H fun v H' => Fin v H' Q) :
    ∀ σ H Q, xE K g (e2 op fa fb) σ H Q → tFz (tOp r (xE K g fa) (xE K g fb)) σ H Q := by
  rintro σ H Q ⟨ρ, own, d, ρ', h, R, k⟩
  obtain ⟨x, ρ1, y, h1, h2, h3⟩ := e2_some h
  refine ⟨ρ, own, x, ρ1, h1, R, fun v ow1 H1 k1 i1 => ⟨ρ1, ow1, y, ρ', h2, k1.rel, fun w ow2 H2 k2 i2 => ?_⟩⟩
  exact hr v w x y d H2 Q (k2.im i1) i2 h3 fun z H3 s i3 => k z ow2 H3 ((k1.trans k2).trans (k2.rel.goSame s)) i3
theorem q_bin {op : Operator} {f : D → D → Option D} (ho : Op2 X (binaryOp op) f) (ha : QE X g a fa) (hb : QE X g b fb) : QE X g (.BinOp a op b pos) (e2 f fa fb) := by
  obtain ⟨r, h1, h2⟩ := ho
  exact pe_conv (pe_fz (pe_op h1 ha hb)) (two_of h2)
theorem q_cmp {op : CmpOp} {f : D → D → Option D} (ho : Op2 X (compareOp op) f) (ha : QE X g a fa) (hb : QE X g b fb) (hm : behindInMarks op b = false := by first | exact nomark _ | rfl) : QE X g (.Compare a [op] [b] pos) (e2 f fa fb) := by
  obtain ⟨r, h1, h2⟩ := ho
  exact pe_conv (pe_fz (pe_cmpR h1 ha hb hm)) (two_of h2)
theorem q_ix {f : D → D → Option D} (ho : Ix2 X f) (ha : QE X g a fa) (hb : QE X g b fb) (hs : PlainIx b := by exact fun _ _ => rfl) : QE X g (.Subscript a b pos) (e2 f fa fb) := by
  obtain ⟨r, h1, h2⟩ := ho
  exact pe_conv (pe_fz (pe_ix h1 ha hb hs)) (two_of h2)
theorem q_un {op : UnaryOp} {f : D → Option D} (ho : Un1 X (unaryOp op) f) (ha : QE X g a fa) : QE X g (.UnaryOp op a pos) (e1 f fa) := by
  obtain ⟨r, h1, h2⟩ := ho
  refine pe_conv (pe_fz (pe_un h1 ha)) ?_
  rintro σ H Q ⟨ρ, own, d, ρ', h, R, k⟩
  obtain ⟨x, h3, h4⟩ := e1_some h
  exact ⟨ρ, own, x, ρ', h3, R, fun v ow1 H1 k1 i1 => h2 v x d H1 Q i1 h4 fun z H3 s i3 => k z ow1 H3 (k1.trans (k1.rel.goSame s)) i3⟩
/-- names, constants -/
theorem q_var (i : Nat) {x : Str} (hN : X.N[i]? = some x := by rfl) (hv : Vis X.env.scope x := by first | exact Or.inl rfl | exact Or.inr (Or.inl rfl) | exact Or.inr (Or.inr rfl)) (hd : (x == ("__debug__" : Str)) = false := by decide)
    (hcd : (x == ("__classdict__" : Str)) = false := by decide) : QE X g (.Name x pos) (eVar i) := by
  refine pe_conv (pe_var hN hv hd hcd) ?_
  rintro σ H Q ⟨ρ, own, d, ρ', h, R, k⟩
  unfold eVar at h
  split at h
  · rename_i d' h1
    cases h
    obtain ⟨v, e, i⟩ := R.dat h1
    exact ⟨v, e, k v own H (.refl R) i⟩
  · cases h
theorem q_c {t : TE} {d : D} (h : PE X e t) (ht : ∀ σ H Q, (∀ v, Im X.K H v d → Q v H) → t σ H Q) : QE X g e (eC d) := by
  refine pe_conv h ?_
  rintro σ H Q ⟨ρ, own, d', ρ', h, R, k⟩
  cases h
  exact ht σ H Q fun v i => k v own H (.refl R) i
theorem q_int {i j} : QE X g (.Constant (.int i) j pos) (eC (.int i)) := q_c pe_int fun _ _ _ q => q _ (.int i)
theorem q_bl {i j} : QE X g (.Constant (.bool i) j pos) (eC (.bool i)) := q_c pe_bl fun _ _ _ q => q _ (.bl i)
theorem q_str {i j} : QE X g (.Constant (.str i) j pos) (eC (.str i)) := q_c pe_str fun _ _ _ q => q _ (.str i)
theorem q_non {j} : QE X g (.Constant .none j pos) (eC .none) := q_c pe_non fun _ _ _ q => q _ .non
/-- a module's constant -/
structure GCm (K : PySem.W.Frag) (mg : Str → Option Value) (x : Str) (d : D) : Prop where
  ex : ∃ u v, mg x = some u ∧ RelV v u ∧ ∀ H, Im K H v d
theorem q_gc {x : Str} {d : D} (hm : GCm X.K X.mg x d) (hg : Gl X x := by rfl) (hd : (x == ("__debug__" : Str)) = false := by decide) : QE X g (.Name x pos) (eC d) := by
  obtain ⟨u, v, h1, h2, h3⟩ := hm.ex
  exact q_c (pe_glob hg h1 h2 hd) fun _ H _ q => q _ (h3 H)
/-- tests -/
theorem qt_val (h : QE X g e fa) (he : ∀ whole, isTrue e X.env whole = (do let v ← whole; standAt e.pos; holding [v] (truthy v)) := by intro _; rfl) : QT X g e (e1 asB fa) := by
  refine pt_conv (pt_val h he) ?_
  rintro σ H Q ⟨ρ, own, d, ρ', h, R, k⟩
  obtain ⟨x, h3, h4⟩ := e1_some h
  refine ⟨ρ, own, x, ρ', h3, R, fun v ow1 H1 k1 i1 => ?_⟩
  cases x with
  | bool b =>
    cases h4
    exact ⟨_, i1.ofBool, k ow1 H1 k1⟩
  | _ => cases h4
theorem qt_cmp {op : CmpOp} {f : D → D → Option D} (ho : Op2 X (compareOp op) f) (ha : QE X g a fa) (hb : QE X g b fb) (hm : behindInMarks op b = false := by first | exact nomark _ | rfl) : QT X g (.Compare a [op] [b] pos) (e1 asB (e2 f fa fb)) := by
  obtain ⟨r, h1, h2⟩ := ho
  have hp : PT X (.Compare a [op] [b] pos) (tTest (tFz (tOp r (xE X.K g fa) (xE X.K g fb)))) := by
    have hfz : OpR X (compareOp op) (fun x y H Q => r x y H fun v H' => Fin v H' Q) := fun pins s σ H x y v u Q I r1 r2 q => thn (h1 pins s σ H x y v u _ I r1 r2 q) fun _ _ q => ep_fin q
    exact pt_cmpR hfz ha hb hm
  refine pt_conv hp ?_
  rintro σ H Q ⟨ρ, own, d, ρ', h, R, k⟩
  obtain ⟨x, h3, h4⟩ := e1_some h
  refine two_of h2 σ H _ ⟨ρ, own, x, ρ', h3, R, fun v ow1 H1 k1 i1 => ?_⟩
  cases x with
  | bool b =>
    cases h4
    exact ⟨_, i1.ofBool, k ow1 H1 k1⟩
  | _ => cases h4
variable {ta tb : M Bool} {rest : List Expr}
theorem tAndM_some {ρ ρ' : Rho} {d : Bool} (h : tAndM ta tb ρ = some (d, ρ')) : ∃ x ρ1, ta ρ = some (x, ρ1) ∧ if x = true then tb ρ1 = some (d, ρ') else d = false ∧ ρ1 = ρ' := by
  unfold tAndM at h
  split at h
  · rename_i ρ1 h1
    exact ⟨true, ρ1, h1, by simpa using h⟩
  · rename_i ρ1 h1
    cases h
    exact ⟨false, _, h1, by simp⟩
  · cases h
theorem tOrM_some {ρ ρ' : Rho} {d : Bool} (h : tOrM ta tb ρ = some (d, ρ')) : ∃ x ρ1, ta ρ = some (x, ρ1) ∧ if x = true then d = true ∧ ρ1 = ρ' else tb ρ1 = some (d, ρ') := by
  unfold tOrM at h
  split at h
  · rename_i ρ1 h1
    cases h
    exact ⟨true, _, h1, by simp⟩
  · rename_i ρ1 h1
    exact ⟨false, ρ1, h1, by simpa using h⟩
  · cases h
theorem qw_and1 (ha : QT X g a ta) : QW X g (.BoolOp .And [a] pos) ta := pw_and1 ha
theorem qw_or1 (ha : QT X g a ta) : QW X g (.BoolOp .Or [a] pos) ta := pw_or1 ha
theorem qw_and (ha : QT X g a ta) (hb : QW X g (.BoolOp .And (b :: rest) pos) tb) : QW X g (.BoolOp .And (a :: b :: rest) pos) (tAndM ta tb) := by
  refine pw_conv (pw_and ha hb) ?_
  rintro σ H Q ⟨ρ, own, d, ρ', h, R, k⟩
  obtain ⟨x, ρ1, h1, h2⟩ := tAndM_some h
  refine ⟨ρ, own, x, ρ1, h1, R, fun ow1 H1 k1 => ?_⟩
  cases x with
  | true =>
    rw [if_pos rfl] at h2
    exact ⟨ρ1, ow1, d, ρ', h2, k1.rel, fun ow2 H2 k2 => k ow2 H2 (k1.trans k2)⟩
  | false =>
    rw [if_neg Bool.false_ne_true] at h2
    obtain ⟨rfl, rfl⟩ := h2
    exact k ow1 H1 k1
theorem qw_or (ha : QT X g a ta) (hb : QW X g (.BoolOp .Or (b :: rest) pos) tb) : QW X g (.BoolOp .Or (a :: b :: rest) pos) (tOrM ta tb) := by
  refine pw_conv (pw_or ha hb) ?_
  rintro σ H Q ⟨ρ, own, d, ρ', h, R, k⟩
  obtain ⟨x, ρ1, h1, h2⟩ := tOrM_some h
  refine ⟨ρ, own, x, ρ1, h1, R, fun ow1 H1 k1 => ?_⟩
  cases x with
  | true =>
    rw [if_pos rfl] at h2
    obtain ⟨rfl, rfl⟩ := h2
    exact k ow1 H1 k1
  | false =>
    rw [if_neg Bool.false_ne_true] at h2
    exact ⟨ρ1, ow1, d, ρ', h2, k1.rel, fun ow2 H2 k2 => k ow2 H2 (k1.trans k2)⟩
theorem qt_w {f : M Bool} (h : QW X g e f) : QT X g e f := h.pt
theorem qt_not (ha : QT X g a ta) : QT X g (.UnaryOp .Not a pos) (e1 tNotB ta) := by
  refine pt_conv (pt_not ha) ?_
  rintro σ H Q ⟨ρ, own, d, ρ', h, R, k⟩
  obtain ⟨x, h3, h4⟩ := e1_some h
  cases h4
  exact ⟨ρ, own, x, ρ', h3, R, k⟩
/-- as values -/
theorem q_one {op} (h : QE X g a fa) : QE X g (.BoolOp op [a] pos) fa := pe_one h
theorem q_and (ha : QE X g a fa) (hb : QE X g (.BoolOp .And (b :: rest) pos) fb) : QE X g (.BoolOp .And (a :: b :: rest) pos) (eAnd fa fb) := by
  refine pe_conv (pe_and ha hb) ?_
  rintro σ H Q ⟨ρ, own, d, ρ', h, R, k⟩
  unfold eAnd at h
  split at h
  · rename_i ρ1 h1
    exact ⟨ρ, own, _, ρ1, h1, R, fun v ow1 H1 k1 i1 => ⟨true, i1.ofBool, iteT ⟨ρ1, ow1, d, ρ', h, k1.rel, fun w ow2 H2 k2 i2 => k w ow2 H2 (k1.trans k2) i2⟩⟩⟩
  · rename_i ρ1 h1
    cases h
    exact ⟨ρ, own, _, _, h1, R, fun v ow1 H1 k1 i1 => ⟨false, i1.ofBool, iteF (k _ ow1 H1 k1 (.bl false))⟩⟩
  · cases h
theorem q_or (ha : QE X g a fa) (hb : QE X g (.BoolOp .Or (b :: rest) pos) fb) : QE X g (.BoolOp .Or (a :: b :: rest) pos) (eOr fa fb) := by
  refine pe_conv (pe_or ha hb) ?_
  rintro σ H Q ⟨ρ, own, d, ρ', h, R, k⟩
  unfold eOr at h
  split at h
  · rename_i ρ1 h1
    cases h
    exact ⟨ρ, own, _, _, h1, R, fun v ow1 H1 k1 i1 => ⟨true, i1.ofBool, iteT (k _ ow1 H1 k1 (.bl true))⟩⟩
  · rename_i ρ1 h1
    exact ⟨ρ, own, _, ρ1, h1, R, fun v ow1 H1 k1 i1 => ⟨false, i1.ofBool, iteF ⟨ρ1, ow1, d, ρ', h, k1.rel, fun w ow2 H2 k2 i2 => k w ow2 H2 (k1.trans k2) i2⟩⟩⟩
  · cases h
theorem q_not (ha : QE X g a fa) : QE X g (.UnaryOp .Not a pos) (e1 dNot fa) := by
  refine pe_conv (pe_not ha) ?_
  rintro σ H Q ⟨ρ, own, d, ρ', h, R, k⟩
  obtain ⟨x, h3, h4⟩ := e1_some h
  refine ⟨ρ, own, x, ρ', h3, R, fun v ow1 H1 k1 i1 => ?_⟩
  cases x with
  | bool b =>
    cases h4
    exact ⟨_, i1.ofBool, k _ ow1 H1 k1 (.bl _)⟩
  | _ => cases h4
theorem q_if (hc : QT X g c ta) (ha : QE X g a fa) (hb : QE X g b fb) : QE X g (.IfExp c a b pos) (eIf ta fa fb) := by
  refine pe_conv (pe_ifExp hc ha hb) ?_
  rintro σ H Q ⟨ρ, own, d, ρ', h, R, k⟩
  unfold eIf at h
  split at h
  · rename_i ρ1 h1
    exact ⟨ρ, own, _, ρ1, h1, R, fun ow1 H1 k1 => iteT ⟨ρ1, ow1, d, ρ', h, k1.rel, fun w ow2 H2 k2 i2 => k w ow2 H2 (k1.trans k2) i2⟩⟩
  · rename_i ρ1 h1
    exact ⟨ρ, own, _, ρ1, h1, R, fun ow1 H1 k1 => iteF ⟨ρ1, ow1, d, ρ', h, k1.rel, fun w ow2 H2 k2 i2 => k w ow2 H2 (k1.trans k2) i2⟩⟩
  · cases h
/-- argument lists, displays -/
theorem qa_nil : QA X g [] aNil := by
  refine pa_conv pa_nil ?_
  rintro σ H Q ⟨ρ, own, d, ρ', h, R, k⟩
  cases h
  exact k [] own H (.refl R) .nil
variable {fs : M (List D)} {es : List Expr}
theorem qa_cons (ha : QE X g e fa) (hr : QA X g es fs) (hs : starEach (e :: es) X.env = (false, eval e X.env) :: starEach es X.env := by rfl) : QA X g (e :: es) (aCons fa fs) := by
  refine pa_conv (pa_cons ha hr hs) ?_
  rintro σ H Q ⟨ρ, own, d, ρ', h, R, k⟩
  obtain ⟨x, ρ1, xs, h1, h2, rfl⟩ := aCons_some h
  exact ⟨ρ, own, x, ρ1, h1, R, fun v ow1 H1 k1 i1 => ⟨ρ1, ow1, xs, ρ', h2, k1.rel, fun vs ow2 H2 k2 i2 => k _ ow2 H2 (k1.trans k2) (.cons (k2.im i1) i2)⟩⟩
/-- a display has at most so many items -/
def most : Nat := 100000
theorem most_line : most ≤ sizeLine := by rw [sizeLine_eq]; decide
def mkT (ds : List D) : Option D := if ds.length ≤ most then some (.tuple ds) else none
def mkL (ds : List D) : Option D := if ds.length ≤ most then some (.list ds) else none
theorem q_tup {x1} (h : QA X g es fs) : QE X g (.Tuple es x1 pos) (e1 mkT fs) := by
  refine pe_conv (pe_fz (pe_tup h)) ?_
  rintro σ H Q ⟨ρ, own, d, ρ', h, R, k⟩
  obtain ⟨x, h3, h4⟩ := e1_some h
  unfold mkT at h4
  split at h4
  · rename_i hl
    cases h4
    refine ⟨ρ, own, x, ρ', h3, R, fun vs ow1 H1 k1 i1 => ⟨by rw [i1.len]; exact Nat.le_trans hl most_line, fun p hp => ?_⟩⟩
    exact Out.tup (fun v H' s i => k v ow1 H' (k1.trans (k1.rel.goSame s)) i) hp i1
  · cases h4
theorem q_lst (h : QA X g es fs) : QE X g (.List es pos) (e1 mkL fs) := by
  refine pe_conv (pe_fz (pe_lst h)) ?_
  rintro σ H Q ⟨ρ, own, d, ρ', h, R, k⟩
  obtain ⟨x, h3, h4⟩ := e1_some h
  unfold mkL at h4
  split at h4
  · rename_i hl
    cases h4
    refine ⟨ρ, own, x, ρ', h3, R, fun vs ow1 H1 k1 i1 => ⟨by rw [i1.len]; exact Nat.le_trans hl most_line, fun p hp => ?_⟩⟩
    exact Out.lst (fun v H' s i => k v ow1 H' (k1.trans (k1.rel.goSame s)) i) hp i1
  · cases h4
/-! calls of what is built in -/
variable {x : Str} {p : Pos} {id T : String}
theorem args_of {f : List D → Option D} {r : List V → Hp → VK → Prop} {K : PySem.W.Frag} (hr : ∀ vs ds dz H Q, ImAll K H vs ds → f ds = some dz → Out K H dz Q → r vs H fun v H' => Fin v H' Q) :
    ∀ σ H Q, xE K g (e1 f fs) σ H Q → tFz (tCB r (xA K g fs)) σ H Q := by
  rintro σ H Q ⟨ρ, own, d, ρ', h, R, k⟩
  obtain ⟨xs, h3, h4⟩ := e1_some h
  exact ⟨ρ, own, xs, ρ', h3, R, fun vs ow1 H1 k1 i1 => hr vs xs d H1 Q i1 h4 fun z H3 s i3 => k z ow1 H3 (k1.trans (k1.rel.goSame s)) i3⟩
theorem q_callB {f : List D → Option D} (hf : Fn1 X (.builtin id) f) (hm : X.mg x = none) (hv : bootBuiltins x = some (.builtin id)) (ha : QA X g (e :: es) fs) (hg : Gl X x := by rfl) (hn : x ≠ "__name__" := by decide) (hdb : (x == ("__debug__" : Str)) = false := by decide)
    (he : starEach (e :: es) X.env = (false, eval e X.env) :: starEach es X.env := by rfl) (hpl : (backTo pos (starEach es X.env)).any (·.1) = false := by rfl) : QE X g (.Call (.Name x p) (e :: es) [] pos) (e1 f fs) := by
  obtain ⟨r, h1, h2⟩ := hf
  exact pe_conv (pe_fz (pe_callB h1 hg hm hv ha hn hdb he hpl)) (args_of h2)
theorem q_callTy {f : List D → Option D} (hf : Fn1 X (.type T) f) (hm : X.mg x = none) (hv : bootBuiltins x = some (.type T)) (ha : QA X g (e :: es) fs) (hg : Gl X x := by rfl) (hn : x ≠ "__name__" := by decide) (hdb : (x == ("__debug__" : Str)) = false := by decide)
    (he : starEach (e :: es) X.env = (false, eval e X.env) :: starEach es X.env := by rfl) (hpl : (backTo pos (starEach es X.env)).any (·.1) = false := by rfl) : QE X g (.Call (.Name x p) (e :: es) [] pos) (e1 f fs) := by
  obtain ⟨r, h1, h2⟩ := hf
  exact pe_conv (pe_fz (pe_callTy h1 hg hm hv ha hn hdb he hpl)) (args_of h2)
/-! calls of defs -/
/-- a def that takes data and gives data -/
def spD (K : PySem.W.Frag) (T : Tb) (F : List D → Option D) : Sp := fun vs H Q _ => ∃ ds d, ImAll K H vs ds ∧ F ds = some d ∧ LamX.Tabs T H ∧ ∀ v H', Kp T B0 H H' → LamX.Tabs T H' → Im K H' v d → Q v H'
/-- a def that changes the list it gets first -/
def spB (K : PySem.W.Frag) (T : Tb) (F : List D → List D → Option (D × List D)) : Sp := fun vs H Q _ => ∃ a ws xs es ds d es', vs = .ref a :: ws ∧ H a = some (.lst xs) ∧ ImAll K H xs es ∧ ImAll K H ws ds ∧ F es ds = some (d, es') ∧ LamX.Tabs T H ∧
  ∀ v H' xs', Kp T (B1 a) H H' → LamX.Tabs T H' → H' a = some (.lst xs') → ImAll K H' xs' es' → Im K H' v d → Q v H'
/-- a def that takes data and gives a new list -/
def spO (K : PySem.W.Frag) (T : Tb) (F : List D → Option (List D)) : Sp := fun vs H Q _ => ∃ ds es, ImAll K H vs ds ∧ F ds = some es ∧ LamX.Tabs T H ∧
  ∀ p xs H', Kp T B0 H H' → LamX.Tabs T H' → H p = none → H' p = some (.lst xs) → ImAll K H' xs es → Q (.ref p) H'
/-- how a def stands in a context: it may be called from there -/
structure DefOk (X : Cx) (x : Str) (sp : Sp) : Prop where
  ex : ∃ (k : Nat) (f : Addr) (fd : FuncData) (ps : List Str), FnOk X.prog X.w X.K X.mg X.base CX0 k f fd ps sp ∧ Room k X.A ∧ X.mg x = some (.ref f) ∧ PySem.W.keepIn X.K (.ref f) = true ∧ Binds X.K fd ps []
theorem q_call {F : List D → Option D} (hf : DefOk X x (spD X.K g.T F)) (ha : QA X g (e :: es) fs) (hg : Gl X x := by rfl) (hdb : (x == ("__debug__" : Str)) = false := by decide)
    (he : starEach (e :: es) X.env = (false, eval e X.env) :: starEach es X.env := by rfl) (hpl : (backTo pos (starEach es X.env)).any (·.1) = false := by rfl) : QE X g (.Call (.Name x p) (e :: es) [] pos) (e1 F fs) := by
  obtain ⟨k, f, fd, ps, F0, hr, hm, hk, hb⟩ := hf.ex
  refine pe_conv (pe_call F0 hr hg hm hk hb .nil pass0 ha hdb he hpl) ?_
  rintro σ H Q ⟨ρ, own, d, ρ', h, R, k⟩
  obtain ⟨xs, h3, h4⟩ := e1_some h
  refine ⟨ρ, own, xs, ρ', h3, R, fun vs ow1 H1 k1 i1 => ?_⟩
  refine ⟨xs, d, by simpa using i1, h4, k1.rel.tb, fun v H' kp tb im => k v ow1 H' (k1.trans (k1.rel.go kp)) im⟩
end
end VS

namespace VS
open PySem PySem.Spec PyProof.Rows L2

/-! ### targets -/
def SameOut (ts : List Nat) (σ σ' : L2.St) : Prop := σ'.length = σ.length ∧ ∀ i, i ∉ ts → σ'[i]? = σ[i]?
theorem SameOut.refl (ts : List Nat) (σ : L2.St) : SameOut ts σ σ := ⟨rfl, fun _ _ => rfl⟩
theorem SameOut.trans {ts us : List Nat} {σ σ1 σ2 : L2.St} (a : SameOut ts σ σ1) (b : SameOut us σ1 σ2) : SameOut (ts ++ us) σ σ2 :=
  ⟨b.1.trans a.1, fun i h => (b.2 i (fun z => h (List.mem_append_right _ z))).trans (a.2 i (fun z => h (List.mem_append_left _ z)))⟩
theorem SameOut.set {i : Nat} {σ : L2.St} {x : Option V} : SameOut [i] σ (σ.set i x) := ⟨List.length_set .., fun j h => List.getElem?_set_ne (fun z => h (by simp [z]))⟩
def xG (K : PySem.W.Frag) (g : Gx) (f : D → Rho → Option Rho) (ts : List Nat) : TG := fun v σ H Q => ∃ d ρ own ρ', f d ρ = some ρ' ∧ Im K H v d ∧ RelE K g σ ρ own H ∧ ∀ σ' own' H', Go K g σ own H σ' ρ' own' H' → SameOut ts σ σ' → Q σ' H'
def xGs (K : PySem.W.Frag) (g : Gx) (f : List D → Rho → Option Rho) (ts : List Nat) : TGs := fun vs σ H Q => ∃ ds ρ own ρ', f ds ρ = some ρ' ∧ ImAll K H vs ds ∧ RelE K g σ ρ own H ∧ ∀ σ' own' H', Go K g σ own H σ' ρ' own' H' → SameOut ts σ σ' → Q σ' H'
abbrev QG (X : Cx) (g : Gx) (tg : Expr) (f : D → Rho → Option Rho) (ts : List Nat) : Prop := PG X tg (xG X.K g f ts)
abbrev QGs (X : Cx) (g : Gx) (tg : List Expr) (f : List D → Rho → Option Rho) (ts : List Nat) : Prop := PGs X tg (xGs X.K g f ts)
theorem pg_conv {X : Cx} {e : Expr} {t t' : TG} (h : PG X e t) (c : ∀ v σ H Q, t' v σ H Q → t v σ H Q) : PG X e t' := ⟨fun pins s σ H v u Q I r q => h.run pins s σ H v u Q I r (c v σ H Q q)⟩
theorem pgs_conv {X : Cx} {e : List Expr} {t t' : TGs} (h : PGs X e t) (c : ∀ v σ H Q, t' v σ H Q → t v σ H Q) : PGs X e t' := ⟨fun pins s σ H v u Q I r q => h.run pins s σ H v u Q I r (c v σ H Q q)⟩
def gName (i : Nat) : D → Rho → Option Rho := fun d ρ => some (ρ.set i (some (.dat d)))
def gsNil : List D → Rho → Option Rho := fun ds ρ => match ds with
  | [] => some ρ
  | _ => none
def gsCons (f : D → Rho → Option Rho) (fs : List D → Rho → Option Rho) : List D → Rho → Option Rho := fun ds ρ => match ds with
  | d :: r => (match f d ρ with | some ρ1 => fs r ρ1 | none => none)
  | [] => none
def gTup (fs : List D → Rho → Option Rho) : D → Rho → Option Rho := fun d ρ => match d with
  | .tuple ds => fs ds ρ
  | _ => none
def gLst (fs : List D → Rho → Option Rho) : D → Rho → Option Rho := fun d ρ => match d with
  | .list ds => fs ds ρ
  | _ => none
section
variable {X : Cx} {g : Gx} {pos : Pos} {f : D → Rho → Option Rho} {fs : List D → Rho → Option Rho} {ts us : List Nat} {e : Expr} {es : List Expr}
theorem qg_name (i : Nat) {x : Str} (hN : X.N.Nodup) (hl : okSlot g i = true := by rfl) (hi : X.N[i]? = some x := by rfl) (hx : Loc X.env.scope x := by first | exact .inl rfl | exact .inr rfl) (hf : X.fn x = true ∨ X.env.scope.names.lookup x = some .local := by first | exact .inl rfl | exact .inr rfl) :
    QG X g (.Name x pos) (gName i) [i] := by
  refine pg_conv (pg_name hN hi hx hf) ?_
  rintro v σ H Q ⟨d, ρ, own, ρ', h, im, R, k⟩
  cases h
  obtain ⟨ow, go⟩ := R.set hl im
  exact k _ ow H go SameOut.set
theorem qgs_nil : QGs X g [] gsNil [] := by
  refine pgs_conv pgs_nil ?_
  rintro v σ H Q ⟨d, ρ, own, ρ', h, im, R, k⟩
  cases im with
  | nil =>
    cases h
    exact ⟨rfl, k _ own H (.refl R) (SameOut.refl _ _)⟩
  | cons _ _ => cases h
theorem qgs_cons (h1 : QG X g e f ts) (h2 : QGs X g es fs us) (hs : (assignEach (e :: es) X.env).map (·.2) = assign e X.env :: (assignEach es X.env).map (·.2) := by rfl) : QGs X g (e :: es) (gsCons f fs) (ts ++ us) := by
  refine pgs_conv (pgs_cons h1 h2 hs) ?_
  rintro v σ H Q ⟨d, ρ, own, ρ', h, im, R, k⟩
  cases im with
  | nil => cases h
  | @cons v vs d ds i1 i2 =>
    cases h1 : f d ρ with
    | none => simp only [gsCons, h1] at h; cases h
    | some ρ1 =>
      simp only [gsCons, h1] at h
      exact ⟨v, vs, rfl, d, ρ, own, ρ1, h1, i1, R, fun σ1 ow1 H1 k1 s1 => ⟨ds, ρ1, ow1, ρ', h, k1.ims i2, k1.rel, fun σ2 ow2 H2 k2 s2 => k σ2 ow2 H2 (k1.trans k2) (s1.trans s2)⟩⟩
theorem gs_len {n : Nat} (hl : ∀ ds ρ ρ', fs ds ρ = some ρ' → ds.length = n) {ds : List D} {ρ ρ' : Rho} {H : Hp} {vs : List V} {K : PySem.W.Frag} (im : ImAll K H vs ds) (h : fs ds ρ = some ρ') : vs.length = n := by rw [im.len]; exact hl ds ρ ρ' h
/-- how many values a row of targets takes -/
structure GLen (fs : List D → Rho → Option Rho) (n : Nat) : Prop where
  len : ∀ ds ρ ρ', fs ds ρ = some ρ' → ds.length = n
theorem glen_nil : GLen gsNil 0 := ⟨fun ds ρ ρ' h => by
  cases ds with
  | nil => rfl
  | cons _ _ => cases h⟩
theorem glen_cons {n : Nat} (h : GLen fs n) : GLen (gsCons f fs) (n + 1) := ⟨fun ds ρ ρ' h' => by
  cases ds with
  | nil => cases h'
  | cons d r =>
    cases h1 : f d ρ with
    | none => simp only [gsCons, h1] at h'; cases h'
    | some ρ1 =>
      simp only [gsCons, h1] at h'
      rw [List.length_cons, h.len _ _ _ h']⟩
theorem qg_tup {k : Nat} {n : Nat} (h : QGs X g es fs ts) (hl : GLen fs n) (hc : X.calm = true := by rfl) (hn : (assignEach es X.env).length = n := by rfl) (hst : (assignEach es X.env).findIdx? (·.1) = none := by rfl) : QG X g (.Tuple es k pos) (gTup fs) ts := by
  refine pg_conv (pg_tup hc h hn hst) ?_
  rintro v σ H Q ⟨d, ρ, own, ρ', h, im, R, k⟩
  cases im with
  | tup i1 i2 => exact ⟨_, _, rfl, i1, gs_len hl.len i2 h, _, ρ, own, ρ', h, i2, R, k⟩
  | _ => cases h
theorem qg_lst {k : Nat} {n : Nat} (h : QGs X g es fs ts) (hl : GLen fs n) (hc : X.calm = true := by rfl) (hn : (assignEach es X.env).length = n := by rfl) (hst : (assignEach es X.env).findIdx? (·.1) = none := by rfl) : QG X g (.Tuple es k pos) (gLst fs) ts := by
  refine pg_conv (pg_unl hc h hn hst) ?_
  rintro v σ H Q ⟨d, ρ, own, ρ', h, im, R, k⟩
  cases im with
  | lst i1 i2 => exact ⟨_, _, rfl, i1.sq, gs_len hl.len i2 h, _, ρ, own, ρ', h, i2, R, k⟩
  | _ => cases h
end

/-! ### statements -/
inductive Fl where
  | nx | bk | ct | rt (d : D) | ro (ds : List D)
abbrev MS := Rho → Option (Fl × Rho)
def goEnd (K : PySem.W.Frag) (H0 : Hp) (fl : Fl) (Dn : Ends) (σ : L2.St) (H : Hp) : Prop := match fl with
  | .nx => Dn.nx σ H
  | .bk => Dn.bk σ H
  | .ct => Dn.ct σ H
  | .rt d => ∀ v, Im K H v d → Dn.rt v H
  | .ro ds => ∀ p xs, H0 p = none → H p = some (.lst xs) → ImAll K H xs ds → Dn.rt (.ref p) H
def xS (K : PySem.W.Frag) (g : Gx) (f : MS) : TS := fun Dn σ H => ∃ ρ own fl ρ', f ρ = some (fl, ρ') ∧ RelE K g σ ρ own H ∧ ∀ σ' own' H', Go K g σ own H σ' ρ' own' H' → goEnd K H fl Dn σ' H'
abbrev QS (X : Cx) (g : Gx) (st : Stmt) (f : MS) : Prop := PS X st (xS X.K g f)
abbrev QSs (X : Cx) (g : Gx) (st : List Stmt) (f : MS) : Prop := PSs X st (xS X.K g f)
theorem ps_conv {X : Cx} {st : Stmt} {t t' : TS} (h : PS X st t) (c : ∀ Dn σ H, t' Dn σ H → t Dn σ H) : PS X st t' := ⟨fun pins s σ H Dn I q => h.run pins s σ H Dn I (c Dn σ H q)⟩
theorem pss_conv {X : Cx} {st : List Stmt} {t t' : TS} (h : PSs X st t) (c : ∀ Dn σ H, t' Dn σ H → t Dn σ H) : PSs X st t' := ⟨fun pins s σ H Dn I q => h.run pins s σ H Dn I (c Dn σ H q)⟩
def sNx : MS := fun ρ => some (.nx, ρ)
def sBk : MS := fun ρ => some (.bk, ρ)
def sCt : MS := fun ρ => some (.ct, ρ)
def sNever : MS := fun _ => none
def sSeq (a b : MS) : MS := fun ρ => match a ρ with
  | some (.nx, ρ1) => b ρ1
  | r => r
def sIf (c : M Bool) (a b : MS) : MS := fun ρ => match c ρ with
  | some (true, ρ1) => a ρ1
  | some (false, ρ1) => b ρ1
  | none => none
def sRet (f : M D) : MS := fun ρ => match f ρ with
  | some (d, ρ1) => some (.rt d, ρ1)
  | none => none
def sRetN : MS := fun ρ => some (.rt .none, ρ)
def sRetO (f : M (List D)) : MS := fun ρ => match f ρ with
  | some (ds, ρ1) => if ds.length ≤ most then some (.ro ds, ρ1) else none
  | none => none
def sDrop (f : M D) : MS := fun ρ => match f ρ with
  | some (_, ρ1) => some (.nx, ρ1)
  | none => none
def sAsg (f : M D) (t : D → Rho → Option Rho) : MS := fun ρ => match f ρ with
  | some (d, ρ1) => (match t d ρ1 with | some ρ2 => some (.nx, ρ2) | none => none)
  | none => none
/-- i takes a new list of its own -/
def sOwn (i : Nat) (f : M (List D)) : MS := fun ρ => match f ρ with
  | some (ds, ρ1) => if ds.length ≤ most then some (.nx, ρ1.set i (some (.ol ds))) else none
  | none => none
def sPar (is : List Nat) (f : M (List D)) : MS := fun ρ => match f ρ with
  | some (ds, ρ1) => if ds.length = is.length then some (.nx, (is.zip ds).foldl (fun r p => r.set p.1 (some (.dat p.2))) ρ1) else none
  | none => none
def forGo (t : D → Rho → Option Rho) (b : MS) : List D → Rho → Option (Fl × Rho)
  | [], ρ => some (.nx, ρ)
  | d :: r, ρ => match t d ρ with
    | none => none
    | some ρ1 => match b ρ1 with
      | some (.nx, ρ2) => forGo t b r ρ2
      | some (.ct, ρ2) => forGo t b r ρ2
      | some (.bk, ρ2) => some (.nx, ρ2)
      | some (.rt d, ρ2) => some (.rt d, ρ2)
      | some (.ro d, ρ2) => some (.ro d, ρ2)
      | none => none
def sFor (it : M (List D)) (t : D → Rho → Option Rho) (b : MS) : MS := fun ρ => match it ρ with
  | some (ds, ρ1) => forGo t b ds ρ1
  | none => none
def whGo (c : M Bool) (b : MS) : Nat → Rho → Option (Fl × Rho)
  | 0, _ => none
  | n + 1, ρ => match c ρ with
    | none => none
    | some (false, ρ1) => some (.nx, ρ1)
    | some (true, ρ1) => match b ρ1 with
      | some (.nx, ρ2) => whGo c b n ρ2
      | some (.ct, ρ2) => whGo c b n ρ2
      | some (.bk, ρ2) => some (.nx, ρ2)
      | some (.rt d, ρ2) => some (.rt d, ρ2)
      | some (.ro d, ρ2) => some (.ro d, ρ2)
      | none => none
section
variable {X : Cx} {g : Gx} {pos : Pos} {st : Stmt} {rest : List Stmt} {a b : MS} {e : Expr} {f : M D} {c : M Bool}
theorem goEnd.back {K : PySem.W.Frag} {T : Tb} {B : Addr → Prop} {H0 H1 H2 : Hp} {fl : Fl} {Dn : Ends} {σ : L2.St} (k : Kp T B H0 H1) (h : goEnd K H0 fl Dn σ H2) : goEnd K H1 fl Dn σ H2 := by
  cases fl with
  | ro ds => exact fun p xs hn => h p xs (k.free hn)
  | _ => exact h
theorem qss_nil : QSs X g [] sNx := by
  refine pss_conv pss_nil ?_
  rintro Dn σ H ⟨ρ, own, fl, ρ', h, R, k⟩
  cases h
  exact k σ own H (.refl R)
theorem seq_some {a b : MS} {ρ ρ' : Rho} {fl : Fl} (h : sSeq a b ρ = some (fl, ρ')) : (∃ ρ1, a ρ = some (.nx, ρ1) ∧ b ρ1 = some (fl, ρ')) ∨ (a ρ = some (fl, ρ') ∧ fl ≠ .nx) := by
  unfold sSeq at h
  split at h
  · rename_i ρ1 h1
    exact .inl ⟨ρ1, h1, h⟩
  · rename_i h1
    refine .inr ⟨h, fun z => ?_⟩
    subst z
    exact h1 _ h
theorem qss_cons (h1 : QS X g st a) (h2 : QSs X g rest b) : QSs X g (st :: rest) (sSeq a b) := by
  refine pss_conv (pss_cons h1 h2) ?_
  rintro Dn σ H ⟨ρ, own, fl, ρ', h, R, k⟩
  rcases seq_some h with ⟨ρ1, q1, q2⟩ | ⟨q1, q2⟩
  · exact ⟨ρ, own, .nx, ρ1, q1, R, fun σ1 ow1 H1 k1 => ⟨ρ1, ow1, fl, ρ', q2, k1.rel, fun σ2 ow2 H2 k2 => goEnd.back k1.kp (k σ2 ow2 H2 (k1.trans k2))⟩⟩
  · refine ⟨ρ, own, fl, ρ', q1, R, fun σ1 ow1 H1 k1 => ?_⟩
    have := k σ1 ow1 H1 k1
    cases fl with
    | nx => exact absurd rfl q2
    | _ => exact this
theorem qss_one (h1 : QS X g st a) : QSs X g [st] a := pss_one h1
theorem q_pass : QS X g (.Pass pos) sNx := by
  refine ps_conv ps_pass ?_
  rintro Dn σ H ⟨ρ, own, fl, ρ', h, R, k⟩
  cases h
  exact k σ own H (.refl R)
theorem q_break : QS X g (.Break pos) sBk := by
  refine ps_conv ps_break ?_
  rintro Dn σ H ⟨ρ, own, fl, ρ', h, R, k⟩
  cases h
  exact k σ own H (.refl R)
theorem q_continue : QS X g (.Continue pos) sCt := by
  refine ps_conv ps_continue ?_
  rintro Dn σ H ⟨ρ, own, fl, ρ', h, R, k⟩
  cases h
  exact k σ own H (.refl R)
/-- what is never reached -/
theorem q_never : QS X g st sNever := by
  refine ps_conv ps_never ?_
  rintro Dn σ H ⟨ρ, own, fl, ρ', h, R, k⟩
  cases h
theorem q_ifS {x y : List Stmt} {ce : Expr} (hc : QT X g ce c) (ha : QSs X g x a) (hb : QSs X g y b) : QS X g (.If ce x y pos) (sIf c a b) := by
  refine ps_conv (ps_if hc ha hb) ?_
  rintro Dn σ H ⟨ρ, own, fl, ρ', h, R, k⟩
  unfold sIf at h
  split at h
  · rename_i ρ1 h1
    exact ⟨ρ, own, _, ρ1, h1, R, fun ow1 H1 k1 => iteT ⟨ρ1, ow1, fl, ρ', h, k1.rel, fun σ2 ow2 H2 k2 => goEnd.back k1.kp (k σ2 ow2 H2 (k1.trans k2))⟩⟩
  · rename_i ρ1 h1
    exact ⟨ρ, own, _, ρ1, h1, R, fun ow1 H1 k1 => iteF ⟨ρ1, ow1, fl, ρ', h, k1.rel, fun σ2 ow2 H2 k2 => goEnd.back k1.kp (k σ2 ow2 H2 (k1.trans k2))⟩⟩
  · cases h
theorem q_ret (he : QE X g e f) : QS X g (.Return (some e) pos) (sRet f) := by
  refine ps_conv (ps_ret he) ?_
  rintro Dn σ H ⟨ρ, own, fl, ρ', h, R, k⟩
  unfold sRet at h
  split at h
  · rename_i d ρ1 h1
    cases h
    exact ⟨ρ, own, d, ρ', h1, R, fun v ow1 H1 k1 i1 => k σ ow1 H1 k1 v i1⟩
  · cases h
theorem q_retN : QS X g (.Return none pos) sRetN := by
  refine ps_conv ps_retN ?_
  rintro Dn σ H ⟨ρ, own, fl, ρ', h, R, k⟩
  cases h
  exact k σ own H (.refl R) _ .non
theorem q_retO {es : List Expr} {fs : M (List D)} {p2 : Pos} (he : QA X g es fs) : QS X g (.Return (some (.List es p2)) pos) (sRetO fs) := by
  refine ps_conv (ps_ret (pe_lst he)) ?_
  rintro Dn σ H ⟨ρ, own, fl, ρ', h, R, k⟩
  unfold sRetO at h
  split at h
  · rename_i ds ρ1 h1
    split at h
    · rename_i hl
      cases h
      refine ⟨ρ, own, ds, ρ', h1, R, fun vs ow1 H1 k1 i1 => ⟨by rw [i1.len]; exact Nat.le_trans hl most_line, fun p hp => ?_⟩⟩
      exact k σ ow1 _ (k1.trans (k1.rel.goNew hp)) p vs (k1.kp.free hp) upd_same (i1.up (.new hp))
    · cases h
  · cases h
theorem q_drop (he : QE X g e f) (hs : swapsWith e none pos.line X.env = pure false := by rfl) : QS X g (.Expr e pos) (sDrop f) := by
  refine ps_conv (ps_expr he hs) ?_
  rintro Dn σ H ⟨ρ, own, fl, ρ', h, R, k⟩
  unfold sDrop at h
  split at h
  · rename_i d ρ1 h1
    cases h
    exact ⟨ρ, own, d, ρ', h1, R, fun v ow1 H1 k1 i1 => k σ ow1 H1 k1⟩
  · cases h
variable {t : D → Rho → Option Rho} {ts : List Nat} {tg : Expr}
theorem asg_of {K : PySem.W.Frag} : ∀ Dn σ H, xS K g (sAsg f t) Dn σ H → tAsg (xE K g f) (xG K g t ts) Dn σ H := by
  rintro Dn σ H ⟨ρ, own, fl, ρ', h, R, k⟩
  unfold sAsg at h
  split at h
  · rename_i d ρ1 h1
    cases h2 : t d ρ1 with
    | none => simp only [h2] at h; cases h
    | some ρ2 =>
      simp only [h2] at h
      cases h
      exact ⟨ρ, own, d, ρ1, h1, R, fun v ow1 H1 k1 i1 => ⟨d, ρ1, ow1, ρ', h2, i1, k1.rel, fun σ2 ow2 H2 k2 _ => k σ2 ow2 H2 (k1.trans k2)⟩⟩
  · cases h
theorem q_asg (he : QE X g e f) (hg : QG X g tg t ts) (hs : swapsWithSole [tg] e pos.line X.env = pure false := by rfl) (hw : swappedStores [tg] e X.env = pure none := by rfl)
    (h1 : (assignEach [tg] X.env).map (·.2) = [assign tg X.env] := by rfl) : QS X g (.Assign [tg] e pos) (sAsg f t) := ps_conv (ps_asg he hg hs hw h1) asg_of
theorem q_set (i : Nat) {x : Str} {pos' : Pos} (hN : X.N.Nodup) (he : QE X g e f) (hl : okSlot g i = true := by rfl) (hi : X.N[i]? = some x := by rfl) (hx : Loc X.env.scope x := by first | exact .inl rfl | exact .inr rfl) (hs : swapsWith e (some (.Name x pos')) pos.line X.env = pure false := by rfl)
    (hf : X.fn x = true ∨ X.env.scope.names.lookup x = some .local := by first | exact .inl rfl | exact .inr rfl) : QS X g (.Assign [.Name x pos'] e pos) (sAsg f (gName i)) := by
  refine ps_conv (ps_set hN hi hx he hs hf) ?_
  rintro Dn σ H ⟨ρ, own, fl, ρ', h, R, k⟩
  unfold sAsg at h
  split at h
  · rename_i d ρ1 h1
    cases h
    exact ⟨ρ, own, d, ρ1, h1, R, fun v ow1 H1 k1 i1 => let ⟨ow2, go⟩ := k1.rel.set hl i1; k _ ow2 H1 (k1.trans go)⟩
  · cases h
/-- name = [..], a list of its own -/
theorem q_own (i : Nat) {x : Str} {pos' p2 : Pos} {es : List Expr} {fs : M (List D)} (hN : X.N.Nodup) (he : QA X g es fs) (hl : okSlot g i = true := by rfl) (hi : X.N[i]? = some x := by rfl) (hx : Loc X.env.scope x := by first | exact .inl rfl | exact .inr rfl)
    (hs : swapsWith (.List es p2) (some (.Name x pos')) pos.line X.env = pure false := by rfl)
    (hf : X.fn x = true ∨ X.env.scope.names.lookup x = some .local := by first | exact .inl rfl | exact .inr rfl) : QS X g (.Assign [.Name x pos'] (.List es p2) pos) (sOwn i fs) := by
  refine ps_conv (ps_set hN hi hx (pe_lst he) hs hf) ?_
  rintro Dn σ H ⟨ρ, own, fl, ρ', h, R, k⟩
  unfold sOwn at h
  split at h
  · rename_i ds ρ1 h1
    split at h
    · rename_i hz
      cases h
      refine ⟨ρ, own, ds, ρ1, h1, R, fun vs ow1 H1 k1 i1 => ⟨by rw [i1.len]; exact Nat.le_trans hz most_line, fun p hp => ?_⟩⟩
      obtain ⟨ow2, go⟩ := k1.rel.setO hl (.new hp) hp upd_same (i1.up (.new hp))
      exact k _ ow2 _ (k1.trans go)
    · cases h
  · cases h
/-- name = f(..), f gives a new list -/
def sOwnC (i : Nat) (F : List D → Option (List D)) (fs : M (List D)) : MS := fun ρ => match fs ρ with
  | some (ds, ρ1) => (match F ds with | some es => some (.nx, ρ1.set i (some (.ol es))) | none => none)
  | none => none
theorem q_ownC (i : Nat) {x y : Str} {pos' p p2 : Pos} {es : List Expr} {fs : M (List D)} {F : List D → Option (List D)} (hN : X.N.Nodup) (hf : DefOk X y (spO X.K g.T F)) (ha : QA X g (e :: es) fs)
    (hl : okSlot g i = true := by rfl) (hi : X.N[i]? = some x := by rfl) (hx : Loc X.env.scope x := by first | exact .inl rfl | exact .inr rfl)
    (hs : swapsWith (.Call (.Name y p) (e :: es) [] p2) (some (.Name x pos')) pos.line X.env = pure false := by rfl)
    (hfn : X.fn x = true ∨ X.env.scope.names.lookup x = some .local := by first | exact .inl rfl | exact .inr rfl) (hg : Gl X y := by rfl) (hdb : (y == ("__debug__" : Str)) = false := by decide)
    (he : starEach (e :: es) X.env = (false, eval e X.env) :: starEach es X.env := by rfl) (hpl : (backTo p2 (starEach es X.env)).any (·.1) = false := by rfl) : QS X g (.Assign [.Name x pos'] (.Call (.Name y p) (e :: es) [] p2) pos) (sOwnC i F fs) := by
  obtain ⟨k, f, fd, ps, F0, hr, hm, hk, hb⟩ := hf.ex
  refine ps_conv (ps_set hN hi hx (pe_call F0 hr hg hm hk hb .nil pass0 ha hdb he hpl) hs hfn) ?_
  rintro Dn σ H ⟨ρ, own, fl, ρ', h, R, k⟩
  unfold sOwnC at h
  split at h
  · rename_i ds ρ1 h1
    cases h2 : F ds with
    | none => simp only [h2] at h; cases h
    | some es' =>
      simp only [h2] at h
      cases h
      refine ⟨ρ, own, ds, ρ1, h1, R, fun vs ow1 H1 k1 i1 => ⟨ds, es', by simpa using i1, h2, k1.rel.tb, fun q xs H' kp tb nq hq im => ?_⟩⟩
      obtain ⟨ow2, go⟩ := k1.rel.setO hl kp nq hq im
      exact k _ ow2 _ (k1.trans go)
  · cases h
/-- a, b = x, y (local names) -/
theorem q_par (i j : Nat) {x y : Str} {ea eb : Expr} {fs : M (List D)} {px py pt : Pos} {kt k2 pt2} (hN : X.N.Nodup) (ha : QA X g [ea, eb] fs) (hl : okSlot g i = true := by rfl) (hl2 : okSlot g j = true := by rfl) (hij : i ≠ j := by decide) (hc : X.calm = true := by rfl) (hi : X.N[i]? = some x := by rfl) (hj : X.N[j]? = some y := by rfl)
    (hx : X.env.scope.names.lookup x = some .local := by rfl) (hy : X.env.scope.names.lookup y = some .local := by rfl)
    (hw : swappedStores [.Tuple [.Name x px, .Name y py] kt pt] (.Tuple [ea, eb] k2 pt2) X.env = pure (some [x, y]) := by rfl)
    (hs : swapsWithSole [.Tuple [.Name x px, .Name y py] kt pt] (.Tuple [ea, eb] k2 pt2) pos.line X.env = pure false := by rfl) :
    QS X g (.Assign [.Tuple [.Name x px, .Name y py] kt pt] (.Tuple [ea, eb] k2 pt2) pos) (sPar [i, j] fs) := by
  refine ps_conv (ps_par hc hN hi hj hij hx hy ha hw hs) ?_
  rintro Dn σ H ⟨ρ, own, fl, ρ', h, R, k⟩
  unfold sPar at h
  split at h
  · rename_i ds ρ1 h1
    split at h
    · rename_i hz
      cases h
      refine ⟨ρ, own, ds, ρ1, h1, R, fun vs ow1 H1 k1 i1 => ?_⟩
      match ds, i1, hz with
      | [d1, d2], .cons (v := v1) i1 (.cons (v := v2) i2 .nil), _ =>
        obtain ⟨ow2, g2⟩ := k1.rel.set hl i1
        obtain ⟨ow3, g3⟩ := g2.rel.set hl2 i2
        exact ⟨v1, v2, rfl, k _ ow3 H1 ((k1.trans g2).trans g3)⟩
    · cases h
  · cases h
theorem q_par3 (i j l : Nat) {x y z : Str} {ea eb ec : Expr} {fs : M (List D)} {px py pz pt : Pos} {kt k2 pt2} (hN : X.N.Nodup) (ha : QA X g [ea, eb, ec] fs) (hl1 : okSlot g i = true := by rfl) (hl2 : okSlot g j = true := by rfl) (hl3 : okSlot g l = true := by rfl) (hij : i ≠ j := by decide) (hil : i ≠ l := by decide) (hjl : j ≠ l := by decide) (hc : X.calm = true := by rfl)
    (hi : X.N[i]? = some x := by rfl) (hj : X.N[j]? = some y := by rfl) (hl : X.N[l]? = some z := by rfl)
    (hx : X.env.scope.names.lookup x = some .local := by rfl) (hy : X.env.scope.names.lookup y = some .local := by rfl) (hz : X.env.scope.names.lookup z = some .local := by rfl)
    (hw : swappedStores [.Tuple [.Name x px, .Name y py, .Name z pz] kt pt] (.Tuple [ea, eb, ec] k2 pt2) X.env = pure (some [x, y, z]) := by rfl)
    (hs : swapsWithSole [.Tuple [.Name x px, .Name y py, .Name z pz] kt pt] (.Tuple [ea, eb, ec] k2 pt2) pos.line X.env = pure false := by rfl) :
    QS X g (.Assign [.Tuple [.Name x px, .Name y py, .Name z pz] kt pt] (.Tuple [ea, eb, ec] k2 pt2) pos) (sPar [i, j, l] fs) := by
  refine ps_conv (ps_par3 hc hN hi hj hl hij hil hjl hx hy hz ha hw hs) ?_
  rintro Dn σ H ⟨ρ, own, fl, ρ', h, R, k⟩
  unfold sPar at h
  split at h
  · rename_i ds ρ1 h1
    split at h
    · rename_i hz
      cases h
      refine ⟨ρ, own, ds, ρ1, h1, R, fun vs ow1 H1 k1 i1 => ?_⟩
      match ds, i1, hz with
      | [d1, d2, d3], .cons (v := v1) i1 (.cons (v := v2) i2 (.cons (v := v3) i3 .nil)), _ =>
        obtain ⟨ow2, g2⟩ := k1.rel.set hl1 i1
        obtain ⟨ow3, g3⟩ := g2.rel.set hl2 i2
        obtain ⟨ow4, g4⟩ := g3.rel.set hl3 i3
        exact ⟨v1, v2, v3, rfl, k _ ow4 H1 (((k1.trans g2).trans g3).trans g4)⟩
    · cases h
  · cases h
/-! ### loops -/
def DrawsD (K : PySem.W.Frag) (J : It) (ds : List D) (H : Hp) : Prop := ∀ H', ImKeep H H' → ∀ i, (∀ d, ds[i]? = some d → J.go i H' ∧ ∀ x H'', J.yld i H' x H'' → Same H' H'' ∧ Im K H'' x d) ∧ (ds[i]? = none → J.stop i H')
def xI (K : PySem.W.Frag) (g : Gx) (f : M (List D)) : TI := fun σ H R => ∃ ρ own ds ρ', f ρ = some (ds, ρ') ∧ RelE K g σ ρ own H ∧ ∀ J own' H', Go K g σ own H σ ρ' own' H' → DrawsD K J ds H' → R J H'
abbrev QI (X : Cx) (g : Gx) (tg it : Expr) (f : M (List D)) : Prop := PI X tg it (xI X.K g f)
theorem pi_conv {X : Cx} {tg it : Expr} {t t' : TI} (h : PI X tg it t) (c : ∀ σ H R, t' σ H R → t σ H R) : PI X tg it t' := ⟨fun pins s σ H R I q => h.run pins s σ H R I (c σ H R q)⟩
theorem drop_get {α : Type} {ds : List α} {i : Nat} {d : α} (h : ds[i]? = some d) : ds.drop i = d :: ds.drop (i + 1) := by
  obtain ⟨hl, rfl⟩ := List.getElem?_eq_some_iff.mp h
  exact (List.drop_eq_getElem_cons hl)
theorem for_of {K : PySem.W.Frag} {it : M (List D)} {bd : MS} : ∀ Dn σ H, xS K g (sFor it t bd) Dn σ H → tFor (xI K g it) (xG K g t ts) (xS K g bd) Dn σ H := by
  rintro Dn σ H ⟨ρ, own, fl, ρ', h, R, k⟩
  unfold sFor at h
  split at h
  · rename_i ds ρ1 h1
    refine ⟨ρ, own, ds, ρ1, h1, R, fun J ow1 H1 k1 dr => ?_⟩
    refine ⟨fun i m σ2 H2 => m = ds.length - i ∧ i ≤ ds.length ∧ ∃ ρi ow2, Go K g σ ow1 H1 σ2 ρi ow2 H2 ∧ forGo t bd (ds.drop i) ρi = some (fl, ρ'), ⟨_, rfl, Nat.zero_le _, ρ1, ow1, .refl k1.rel, h⟩, ?_⟩
    rintro i m σ2 H2 ⟨rfl, hi, ρi, ow2, k2, hg⟩
    obtain ⟨dr1, dr2⟩ := dr H2 k2.kp.imm i
    cases hd : ds[i]? with
    | none =>
      refine .inl ⟨dr2 hd, ?_⟩
      have hl : ds.length ≤ i := List.getElem?_eq_none_iff.mp hd
      rw [List.drop_of_length_le hl] at hg
      cases hg
      exact k σ2 ow2 H2 (k1.trans k2)
    | some d =>
      obtain ⟨go, yl⟩ := dr1 d hd
      have hlt : i < ds.length := (List.getElem?_eq_some_iff.mp hd).1
      rw [drop_get hd, forGo] at hg
      cases ht : t d ρi with
      | none => simp only [ht] at hg; cases hg
      | some ρ2 =>
        simp only [ht] at hg
        cases hb : bd ρ2 with
        | none => simp only [hb] at hg; cases hg
        | some q =>
          obtain ⟨fl2, ρ3⟩ := q
          refine .inr ⟨go, fun σ' H' => ∃ ow3, Go K g σ ow1 H1 σ' ρ3 ow3 H' ∧ forGo t bd (ds.drop (i + 1)) ρ3 = some (fl, ρ'), fun σ' H' ⟨ow3, n1, n2⟩ => ⟨ds.length - (i + 1), by omega, rfl, by omega, ρ3, ow3, n1, n2⟩, fun x H3 y => ?_⟩
          obtain ⟨sm, im⟩ := yl x H3 y
          have s3 := k2.rel.goSame sm
          refine ⟨d, ρi, ow2, ρ2, ht, im, s3.rel, fun σ4 ow4 H4 k4 _ => ⟨ρ2, ow4, fl2, ρ3, hb, k4.rel, fun σ5 ow5 H5 k5 => ?_⟩⟩
          have kk := ((k2.trans s3).trans k4).trans k5
          have k4' := k1.kp.trans ((k2.trans s3).trans k4).kp k1.sub
          cases fl2 with
          | nx => simp only [hb] at hg; exact ⟨ow5, kk, hg⟩
          | ct => simp only [hb] at hg; exact ⟨ow5, kk, hg⟩
          | bk => simp only [hb] at hg; cases hg; exact k σ5 ow5 H5 (k1.trans kk)
          | rt d => simp only [hb] at hg; cases hg; exact k σ5 ow5 H5 (k1.trans kk)
          | ro d => simp only [hb] at hg; cases hg; exact goEnd.back (fl := .ro d) k4' (k σ5 ow5 H5 (k1.trans kk))
  · cases h
theorem q_for {it : Expr} {body : List Stmt} {fi : M (List D)} {bd : MS} (hi : QI X g tg it fi) (hg : QG X g tg t ts) (hb : QSs X g body bd) (hp : PassesOwn (model X.prog X.w) X.A X.env X.xe := by exact PassesOwn.never) (hc : X.calm = true := by rfl)
    (hs : ∀ x, foldedSetIterable it X.env x = pure x := by intro _; rfl) : QS X g (.For tg it body [] pos) (sFor fi t bd) := ps_conv (ps_for hp hc hi hg hb hs) for_of
def sWhile (n : Nat) (c : M Bool) (b : MS) : MS := whGo c b n
theorem while_of {K : PySem.W.Frag} {n : Nat} {bd : MS} : ∀ Dn σ H, xS K g (sWhile n c bd) Dn σ H → tWhile (xT K g c) (xS K g bd) Dn σ H := by
  rintro Dn σ H ⟨ρ, own, fl, ρ', h, R, k⟩
  refine ⟨fun m σ2 H2 => ∃ ρi ow2, Go K g σ own H σ2 ρi ow2 H2 ∧ whGo c bd m ρi = some (fl, ρ'), ⟨n, ρ, own, .refl R, h⟩, ?_⟩
  rintro m σ2 H2 ⟨ρi, ow2, k2, hg⟩
  cases m with
  | zero => cases hg
  | succ m =>
    rw [whGo] at hg
    cases hc : c ρi with
    | none => simp only [hc] at hg; cases hg
    | some q =>
      obtain ⟨bb, ρ2⟩ := q
      refine ⟨ρi, ow2, bb, ρ2, hc, k2.rel, fun ow3 H3 k3 => ?_⟩
      cases bb with
      | false =>
        simp only [hc] at hg
        cases hg
        exact iteF (k σ2 ow3 H3 (k2.trans k3))
      | true =>
        simp only [hc] at hg
        cases hb : bd ρ2 with
        | none => simp only [hb] at hg; cases hg
        | some q =>
          obtain ⟨fl2, ρ3⟩ := q
          refine iteT ⟨fun σ' H' => ∃ ow4, Go K g σ own H σ' ρ3 ow4 H' ∧ whGo c bd m ρ3 = some (fl, ρ'), fun σ' H' ⟨ow4, n1, n2⟩ => ⟨m, Nat.lt_succ_self m, ρ3, ow4, n1, n2⟩, ρ2, ow3, fl2, ρ3, hb, k3.rel, fun σ5 ow5 H5 k5 => ?_⟩
          have kk := (k2.trans k3).trans k5
          cases fl2 with
          | nx => simp only [hb] at hg; exact ⟨ow5, kk, hg⟩
          | ct => simp only [hb] at hg; exact ⟨ow5, kk, hg⟩
          | bk => simp only [hb] at hg; cases hg; exact k σ5 ow5 H5 kk
          | rt d => simp only [hb] at hg; cases hg; exact k σ5 ow5 H5 kk
          | ro d => simp only [hb] at hg; cases hg; exact goEnd.back (fl := .ro d) (k2.trans k3).kp (k σ5 ow5 H5 kk)
theorem q_while {n : Nat} {ce : Expr} {body : List Stmt} {bd : MS} (hc : QT X g ce c) (hb : QSs X g body bd) (hp : PassesOwn (model X.prog X.w) X.A X.env X.xe := by exact PassesOwn.never) : QS X g (.While ce body [] pos) (sWhile n c bd) := ps_conv (ps_while hp hc hb) while_of
end

/-! ### a def by its body -/
def args0 (n : Nat) (ds : List D) : Rho := ds.map (fun d => some (.dat d)) ++ List.replicate (n - ds.length) none
def callD (N n : Nat) (b : MS) : List D → Option D := fun ds => if ds.length = n then (match b (args0 N ds) with
  | some (.rt d, _) => some d
  | some (.nx, _) => some .none
  | _ => none) else none
def callO (N n : Nat) (b : MS) : List D → Option (List D) := fun ds => if ds.length = n then (match b (args0 N ds) with
  | some (.ro d, _) => some d
  | _ => none) else none
def callB (N n : Nat) (b : MS) : List D → List D → Option (D × List D) := fun es ds => if ds.length + 1 = n then (match b (some (.ol es) :: args0 (N - 1) ds) with
  | some (.rt d, some (.ol es') :: _) => some (d, es')
  | some (.nx, some (.ol es') :: _) => some (.none, es')
  | _ => none) else none
theorem start_get {N : List Str} {vs : List V} {ds : List D} {K : PySem.W.Frag} {H : Hp} (im : ImAll K H vs ds) {i : Nat} {sv : SV} (h : (args0 N.length ds)[i]? = some (some sv)) : ∃ v d, (L2.start N vs)[i]? = some (some v) ∧ sv = .dat d ∧ Im K H v d := by
  unfold args0 at h
  by_cases hi : i < ds.length
  · rw [List.getElem?_append_left (by simpa using hi), List.getElem?_map] at h
    have hd : ds[i]? = some ds[i] := List.getElem?_eq_getElem hi
    rw [hd] at h
    obtain ⟨v, h1, h2⟩ := im.get hd
    cases h
    refine ⟨v, _, ?_, rfl, h2⟩
    unfold L2.start
    rw [List.getElem?_append_left (by simpa [im.len] using hi), List.getElem?_map, h1]
    rfl
  · rw [List.getElem?_append_right (by simpa using hi), List.getElem?_replicate] at h
    split at h <;> cases h
theorem start_len {N : List Str} {vs : List V} (h : vs.length ≤ N.length) : (L2.start N vs).length = N.length := by
  unfold L2.start
  rw [List.length_append, List.length_map, List.length_replicate]
  omega
section
variable {P : Program} {w : World} {K : PySem.W.Frag} {mg : Str → Option Value} {base : Heap}
/-- a def as it may be called -/
structure DOk (P : Program) (w : World) (K : PySem.W.Frag) (mg : Str → Option Value) (base : Heap) (k : Nat) (x : Str) (sp : Sp) : Prop where
  ex : ∃ (f : Addr) (fd : FuncData) (ps : List Str), FnOk P w K mg base CX0 k f fd ps sp ∧ mg x = some (.ref f) ∧ PySem.W.keepIn K (.ref f) = true ∧ Binds K fd ps []
theorem DOk.at {X : Cx} {k j : Nat} {x : Str} {sp : Sp} (h : DOk X.prog X.w X.K X.mg X.base k x sp) (hr : Room j X.A) (hk : k ≤ j := by decide) : DefOk X x sp :=
  let ⟨f, fd, ps, h1, h2, h3, h4⟩ := h.ex
  ⟨k, f, fd, ps, h1, hr.mono hk, h2, h3, h4⟩
/-- what the top left of a def -/
structure Df (K : PySem.W.Frag) (mg : Str → Option Value) (x qual : Str) (st : Stmt) (ps : List Str) : Prop where
  ex : ∃ (f : Addr) (fd : FuncData), Fun K x qual st f fd ∧ mg x = some (.ref f) ∧ Binds K fd ps []
abbrev cx0 (P : Program) (w : World) (K : PySem.W.Frag) (mg : Str → Option Value) (base : Heap) (N : List Str) (qual : Str) (st : Stmt) (f : Addr) (cdv : Value) (A : Around) (outer : List Env) (s : Shared) (H : Hp) (E : XK) : Cx :=
  (cxOf CX0 P w K mg base N qual (defScope st) f cdv A outer s H E).nox
theorem rel_start {N : List Str} {vs : List V} {ds : List D} {H : Hp} {T : Tb} {nn pn : Nat} (hN : N.length = nn) (im : ImAll K H vs ds) (tb : LamX.Tabs T H) (hl : vs.length ≤ N.length) : RelE K ⟨T, nn, pn⟩ (L2.start N vs) (args0 nn ds) (fun _ => []) H := by
  subst hN
  refine ⟨tb, start_len hl, fun i j a h => absurd h (by simp), fun i => ?_⟩
  unfold Holds
  split
  · rename_i sv h
    obtain ⟨v, d, h1, rfl, h2⟩ := start_get im h
    exact ⟨v, h1, .dat h2⟩
  · rfl
theorem callD_some {nn n : Nat} {body : MS} {ds : List D} {d : D} (h : callD nn n body ds = some d) : ds.length = n ∧ ∃ fl ρ', body (args0 nn ds) = some (fl, ρ') ∧ (fl = .rt d ∨ (fl = .nx ∧ d = .none)) := by
  unfold callD at h
  split at h
  · rename_i hl
    refine ⟨hl, ?_⟩
    cases hb : body (args0 nn ds) with
    | none => simp only [hb] at h; cases h
    | some z =>
      obtain ⟨fl, ρ'⟩ := z
      cases fl with
      | rt d' => simp only [hb] at h; cases h; exact ⟨_, _, rfl, .inl rfl⟩
      | nx => simp only [hb] at h; cases h; exact ⟨_, _, rfl, .inr ⟨rfl, rfl⟩⟩
      | _ => simp only [hb] at h; cases h
  · cases h
theorem callO_some {nn n : Nat} {body : MS} {ds : List D} {d : List D} (h : callO nn n body ds = some d) : ds.length = n ∧ ∃ ρ', body (args0 nn ds) = some (.ro d, ρ') := by
  unfold callO at h
  split at h
  · rename_i hl
    refine ⟨hl, ?_⟩
    cases hb : body (args0 nn ds) with
    | none => simp only [hb] at h; cases h
    | some z =>
      obtain ⟨fl, ρ'⟩ := z
      cases fl with
      | ro d' => simp only [hb] at h; cases h; exact ⟨_, rfl⟩
      | _ => simp only [hb] at h; cases h
  · cases h
theorem callB_some {nn n : Nat} {body : MS} {es ds : List D} {d : D} {es' : List D} (h : callB nn n body es ds = some (d, es')) : ds.length + 1 = n ∧ ∃ fl r, body (some (.ol es) :: args0 (nn - 1) ds) = some (fl, some (.ol es') :: r) ∧ (fl = .rt d ∨ (fl = .nx ∧ d = .none)) := by
  unfold callB at h
  split at h
  · rename_i hl
    refine ⟨hl, ?_⟩
    cases hb : body (some (.ol es) :: args0 (nn - 1) ds) with
    | none => simp only [hb] at h; cases h
    | some z =>
      obtain ⟨fl, ρ'⟩ := z
      cases ρ' with
      | nil => cases fl <;> (simp only [hb] at h; cases h)
      | cons o r =>
        cases o with
        | none => cases fl <;> (simp only [hb] at h; cases h)
        | some sv =>
          cases sv with
          | dat z => cases fl <;> (simp only [hb] at h; cases h)
          | ol es2 =>
            cases fl with
            | rt d' => simp only [hb] at h; cases h; exact ⟨_, _, rfl, .inl rfl⟩
            | nx => simp only [hb] at h; cases h; exact ⟨_, _, rfl, .inr ⟨rfl, rfl⟩⟩
            | _ => simp only [hb] at h; cases h
  · cases h
theorem not_in0 {b : Addr} (h : InO (fun _ => []) b) : False := by
  obtain ⟨i, hi⟩ := h
  cases hi
theorem dok_data {x qual : Str} {st : Stmt} {N ps : List Str} {k nn n : Nat} {T : Tb} {body : MS} (Dx : Df K mg x qual st ps) (S : FnScope N ps (defScope st)) (hN : N.length = nn) (hn : ps.length = n)
    (hb : ∀ (f : Addr) (cdv : Value) (A : Around) (outer : List Env) (s : Shared) (H : Hp) (E : XK), Room k (A.deeper (envOfC qual (defScope st) s.heap.objs.size f cdv)) → QSs (cx0 P w K mg base N qual st f cdv A outer s H E) ⟨T, nn, 0⟩ (defBody st) body) :
    DOk P w K mg base (k + 1) x (spD K T (callD nn n body)) := by
  obtain ⟨f, fd, F, hm, hB⟩ := Dx.ex
  have hpl : ps.length ≤ N.length := by have := congrArg List.length S.pre; rw [List.length_take] at this; omega
  refine ⟨f, fd, ps, F.ok S (fun vs H Q E h => ?_) (fun cdv A outer s H vs Q E hr h => ⟨_, hb f cdv A outer s H E hr, ?_⟩), hm, F.kp, hB⟩
  · obtain ⟨ds, d, im, hF, _⟩ := h
    rw [im.len, (callD_some hF).1, hn]
  · obtain ⟨ds, d, im, hF, tb, q⟩ := h
    obtain ⟨hl, fl, ρ', h1, h2⟩ := callD_some hF
    refine ⟨_, _, fl, ρ', h1, rel_start hN im tb (by rw [im.len, hl, ← hn]; exact hpl), fun σ' ow H' go => ?_⟩
    have kp : Kp T B0 H H' := go.kp.sub fun b z => (not_in0 z).elim
    rcases h2 with rfl | ⟨rfl, rfl⟩
    · exact fun v i => q v H' kp go.rel.tb i
    · exact q _ H' kp go.rel.tb .non
theorem dok_new {x qual : Str} {st : Stmt} {N ps : List Str} {k nn n : Nat} {T : Tb} {body : MS} (Dx : Df K mg x qual st ps) (S : FnScope N ps (defScope st)) (hN : N.length = nn) (hn : ps.length = n)
    (hb : ∀ (f : Addr) (cdv : Value) (A : Around) (outer : List Env) (s : Shared) (H : Hp) (E : XK), Room k (A.deeper (envOfC qual (defScope st) s.heap.objs.size f cdv)) → QSs (cx0 P w K mg base N qual st f cdv A outer s H E) ⟨T, nn, 0⟩ (defBody st) body) :
    DOk P w K mg base (k + 1) x (spO K T (callO nn n body)) := by
  obtain ⟨f, fd, F, hm, hB⟩ := Dx.ex
  have hpl : ps.length ≤ N.length := by have := congrArg List.length S.pre; rw [List.length_take] at this; omega
  refine ⟨f, fd, ps, F.ok S (fun vs H Q E h => ?_) (fun cdv A outer s H vs Q E hr h => ⟨_, hb f cdv A outer s H E hr, ?_⟩), hm, F.kp, hB⟩
  · obtain ⟨ds, d, im, hF, _⟩ := h
    rw [im.len, (callO_some hF).1, hn]
  · obtain ⟨ds, d, im, hF, tb, q⟩ := h
    obtain ⟨hl, ρ', h1⟩ := callO_some hF
    refine ⟨_, _, _, ρ', h1, rel_start hN im tb (by rw [im.len, hl, ← hn]; exact hpl), fun σ' ow H' go => ?_⟩
    have kp : Kp T B0 H H' := go.kp.sub fun b z => (not_in0 z).elim
    exact fun p xs e1 e2 e3 => q p xs H' kp go.rel.tb e1 e2 e3
theorem dok_noneD {x qual : Str} {st : Stmt} {ps : List Str} {k : Nat} {T : Tb} (Dx : Df K mg x qual st ps) : DOk P w K mg base k x (spD K T fun _ => none) := by
  obtain ⟨f, fd, F, hm, hB⟩ := Dx.ex
  have no : ∀ vs H Q E, ¬ spD K T (fun _ => none) vs H Q E := fun vs H Q E h => by
    obtain ⟨_, _, _, h, _⟩ := h
    cases h
  exact ⟨f, fd, ps, ⟨fun vs H Q E h => (no _ _ _ _ h).elim, fun A outer s H args us vs Q E hr e0 hb r h => (no _ _ _ _ h).elim⟩, hm, F.kp, hB⟩
theorem dok_noneB {x qual : Str} {st : Stmt} {ps : List Str} {k : Nat} {T : Tb} (Dx : Df K mg x qual st ps) : DOk P w K mg base k x (spB K T fun _ _ => none) := by
  obtain ⟨f, fd, F, hm, hB⟩ := Dx.ex
  have no : ∀ vs H Q E, ¬ spB K T (fun _ _ => none) vs H Q E := fun vs H Q E h => by
    obtain ⟨_, _, _, _, _, _, _, _, _, _, _, h, _⟩ := h
    cases h
  exact ⟨f, fd, ps, ⟨fun vs H Q E h => (no _ _ _ _ h).elim, fun A outer s H args us vs Q E hr e0 hb r h => (no _ _ _ _ h).elim⟩, hm, F.kp, hB⟩
def own1 (a : Addr) : Nat → List Addr
  | 0 => [a]
  | _ + 1 => []
theorem dok_borrow {x qual : Str} {st : Stmt} {N ps : List Str} {k nn n : Nat} {T : Tb} {body : MS} (Dx : Df K mg x qual st ps) (S : FnScope N ps (defScope st)) (hN : N.length = nn) (hn : ps.length = n)
    (hb : ∀ (f : Addr) (cdv : Value) (A : Around) (outer : List Env) (s : Shared) (H : Hp) (E : XK), Room k (A.deeper (envOfC qual (defScope st) s.heap.objs.size f cdv)) → QSs (cx0 P w K mg base N qual st f cdv A outer s H E) ⟨T, nn, 1⟩ (defBody st) body) :
    DOk P w K mg base (k + 1) x (spB K T (callB nn n body)) := by
  obtain ⟨f, fd, F, hm, hB⟩ := Dx.ex
  have hpl : ps.length ≤ N.length := by have := congrArg List.length S.pre; rw [List.length_take] at this; omega
  refine ⟨f, fd, ps, F.ok S (fun vs H Q E h => ?_) (fun cdv A outer s H vs Q E hr h => ⟨_, hb f cdv A outer s H E hr, ?_⟩), hm, F.kp, hB⟩
  · obtain ⟨a, ws, xs, es, ds, d, es', rfl, _, _, im, hF, _⟩ := h
    rw [List.length_cons, im.len, (callB_some hF).1, hn]
  · obtain ⟨a, ws, xs, es, ds, d, es', rfl, hH, iL, im, hF, tb, q⟩ := h
    obtain ⟨hl, fl, r, h1, h2⟩ := callB_some hF
    have hl2 : (V.ref a :: ws).length ≤ N.length := by rw [List.length_cons, im.len]; omega
    have hst : L2.start N (V.ref a :: ws) = some (V.ref a) :: (ws.map some ++ List.replicate (N.length - (ws.length + 1)) none) := by
      unfold L2.start
      rw [List.map_cons, List.cons_append, List.length_cons]
    have R0 : RelE K ⟨T, nn, 1⟩ (L2.start N (V.ref a :: ws)) (some (.ol es) :: args0 (nn - 1) ds) (own1 a) H := by
      refine ⟨tb, (start_len hl2).trans hN, fun i j b h h' => ?_, fun i => ?_⟩
      · cases i with
        | zero =>
          cases j with
          | zero => rfl
          | succ j => exact absurd h' (by simp [own1])
        | succ i => exact absurd h (by simp [own1])
      · cases i with
        | zero =>
          rw [hst]
          exact ⟨_, rfl, .ol hH iL⟩
        | succ i =>
          unfold Holds
          split
          · rename_i sv h
            rw [List.getElem?_cons_succ] at h
            unfold args0 at h
            by_cases hi : i < ds.length
            · rw [List.getElem?_append_left (by simpa using hi), List.getElem?_map] at h
              have hd : ds[i]? = some ds[i] := List.getElem?_eq_getElem hi
              rw [hd] at h
              obtain ⟨v, q1, q2⟩ := im.get hd
              cases h
              refine ⟨v, ?_, .dat q2⟩
              rw [hst, List.getElem?_cons_succ, List.getElem?_append_left (by simpa [im.len] using hi), List.getElem?_map, q1]
              rfl
            · rw [List.getElem?_append_right (by simpa using hi), List.getElem?_replicate] at h
              split at h <;> cases h
          · rfl
    refine ⟨_, own1 a, fl, _, h1, R0, fun σ' ow H' go => ?_⟩
    have kp : Kp T (B1 a) H H' := go.kp.sub fun b ⟨j, hj⟩ => by
      cases j with
      | zero => exact .inl (List.mem_singleton.mp hj)
      | succ j => cases hj
    obtain ⟨b, xs', q1, q2, q3, _⟩ := go.rel.ownAt (j := 0) (es := es') rfl
    have pn := go.pin 0 (Nat.zero_lt_one)
    rw [q1, hst] at pn
    cases pn
    rcases h2 with rfl | ⟨rfl, rfl⟩
    · exact fun v i => q v H' xs' kp go.rel.tb q2 q3 i
    · exact q _ H' xs' kp go.rel.tb q2 q3 .non
end
end VS

namespace VS
open PySem PySem.Spec PyProof.Rows L2

theorem ImAll.atI {K : PySem.W.Frag} {H : Hp} {vs : List V} {ds : List D} {i : Int} {d : D} (h : ImAll K H vs ds) (e : L2.atI ds i = some d) : ∃ v, L2.atI vs i = some v ∧ Im K H v d := by
  unfold L2.atI at e ⊢
  rw [h.len]
  cases h1 : ixN ds.length i with
  | none => rw [h1] at e; cases e
  | some j =>
    rw [h1] at e
    exact h.get e

section
variable {X : Cx} {g : Gx} {pos : Pos} {e a b : Expr} {es : List Expr} {fs : M (List D)} {f fa : M D}
/-! ### the lists that belong to slots -/
def isOl (ρ : Rho) (j : Nat) : Option (List D) := match ρ[j]? with
  | some (some (.ol es)) => some es
  | _ => none
theorem isOl_some {ρ : Rho} {j : Nat} {es : List D} (h : isOl ρ j = some es) : ρ[j]? = some (some (.ol es)) := by
  unfold isOl at h
  split at h
  · rename_i es' h1
    cases h
    exact h1
  · cases h
/-- f(own list, ..) -/
def eBor (j : Nat) (F : List D → List D → Option (D × List D)) (fs : M (List D)) : M D := fun ρ => match isOl ρ j with
  | none => none
  | some _ => match fs ρ with
    | none => none
    | some (ds, ρ1) => match isOl ρ1 j with
      | none => none
      | some es => match F es ds with
        | none => none
        | some (d, es') => some (d, ρ1.set j (some (.ol es')))
theorem q_bor (j : Nat) {x y : Str} {p p2 : Pos} {F : List D → List D → Option (D × List D)} (hf : DefOk X x (spB X.K g.T F)) (ha : QA X g es fs) (hN : X.N[j]? = some y := by rfl) (hv : Vis X.env.scope y := by first | exact Or.inl rfl | exact Or.inr (Or.inl rfl) | exact Or.inr (Or.inr rfl))
    (hdy : (y == ("__debug__" : Str)) = false := by decide) (hcd : (y == ("__classdict__" : Str)) = false := by decide) (hg : Gl X x := by rfl) (hdb : (x == ("__debug__" : Str)) = false := by decide)
    (hs : starEach (.Name y p2 :: es) X.env = (false, eval (.Name y p2) X.env) :: starEach es X.env := by rfl) (hpl : (backTo pos (starEach es X.env)).any (·.1) = false := by rfl) :
    QE X g (.Call (.Name x p) (.Name y p2 :: es) [] pos) (eBor j F fs) := by
  obtain ⟨k, f, fd, ps, F0, hr, hm, hk, hb⟩ := hf.ex
  refine pe_conv (pe_call F0 hr hg hm hk hb .nil pass0 (pa_cons (pe_var hN hv hdy hcd) ha hs) hdb hs hpl) ?_
  rintro σ H Q ⟨ρ, own, d, ρ', h, R, k⟩
  unfold eBor at h
  cases h0 : isOl ρ j with
  | none => simp only [h0] at h; cases h
  | some es0 =>
    simp only [h0] at h
    cases h1 : fs ρ with
    | none => simp only [h1] at h; cases h
    | some q =>
      obtain ⟨ds, ρ1⟩ := q
      simp only [h1] at h
      cases h2 : isOl ρ1 j with
      | none => simp only [h2] at h; cases h
      | some es1 =>
        simp only [h2] at h
        cases h3 : F es1 ds with
        | none => simp only [h3] at h; cases h
        | some r =>
          obtain ⟨d', es'⟩ := r
          simp only [h3] at h
          cases h
          obtain ⟨a, xs, q1, _⟩ := R.ownAt (isOl_some h0)
          refine ⟨.ref a, q1, ρ, own, ds, ρ1, h1, R, fun vs ow1 H1 k1 i1 => ?_⟩
          obtain ⟨a2, xs2, p1, p2, p3, _⟩ := k1.rel.ownAt (isOl_some h2)
          rw [q1] at p1
          cases p1
          refine ⟨a, vs, xs2, es1, ds, d, es', by simp, p2, p3, i1, h3, k1.rel.tb, fun v H' xs' kp tb e1 e2 im => ?_⟩
          obtain ⟨ow2, go⟩ := k1.rel.change (isOl_some h2) q1 kp e1 e2
          exact k v ow2 H' (k1.trans go) im
/-- own[i] -/
def eIxO (j : Nat) (f : M D) : M D := fun ρ => match isOl ρ j with
  | none => none
  | some _ => match f ρ with
    | some (.int i, ρ1) => (match isOl ρ1 j with
      | some es => (match atI es i with | some d => some (d, ρ1) | none => none)
      | none => none)
    | _ => none
theorem q_ixO (j : Nat) {y : Str} {p2 : Pos} (hb : QE X g b f) (hN : X.N[j]? = some y := by rfl) (hv : Vis X.env.scope y := by first | exact Or.inl rfl | exact Or.inr (Or.inl rfl) | exact Or.inr (Or.inr rfl))
    (hdy : (y == ("__debug__" : Str)) = false := by decide) (hcd : (y == ("__classdict__" : Str)) = false := by decide) (hs : PlainIx b := by exact fun _ _ => rfl) : QE X g (.Subscript (.Name y p2) b pos) (eIxO j f) := by
  refine pe_conv (pe_ix ix_list (pe_var hN hv hdy hcd) hb hs) ?_
  rintro σ H Q ⟨ρ, own, d, ρ', h, R, k⟩
  unfold eIxO at h
  cases h0 : isOl ρ j with
  | none => simp only [h0] at h; cases h
  | some es0 =>
    simp only [h0] at h
    split at h
    · rename_i i ρ1 h1
      cases h2 : isOl ρ1 j with
      | none => simp only [h2] at h; cases h
      | some es1 =>
        simp only [h2] at h
        cases h3 : atI es1 i with
        | none => simp only [h3] at h; cases h
        | some d' =>
          simp only [h3] at h
          cases h
          obtain ⟨a, xs, q1, _⟩ := R.ownAt (isOl_some h0)
          refine ⟨.ref a, q1, ρ, own, _, ρ', h1, R, fun v ow1 H1 k1 i1 => ?_⟩
          obtain ⟨a2, xs2, p1, p2, p3, _⟩ := k1.rel.ownAt (isOl_some h2)
          rw [q1] at p1
          cases p1
          obtain ⟨w, w1, w2⟩ := p3.atI h3
          exact ⟨a, xs2, i, w, rfl, i1.ofInt, .of p2, w1, k w ow1 H1 k1 w2⟩
    · cases h
/-- len(own) -/
def eLenO (j : Nat) : M D := fun ρ => match isOl ρ j with
  | some es => some (.int es.length, ρ)
  | none => none
theorem q_lenO (j : Nat) {y : Str} {p p2 : Pos} (hm : X.mg "len" = none) (hN : X.N[j]? = some y := by rfl) (hv : Vis X.env.scope y := by first | exact Or.inl rfl | exact Or.inr (Or.inl rfl) | exact Or.inr (Or.inr rfl))
    (hdy : (y == ("__debug__" : Str)) = false := by decide) (hcd : (y == ("__classdict__" : Str)) = false := by decide) (hg : Gl X "len" := by rfl) : QE X g (.Call (.Name "len" p) [.Name y p2] [] pos) (eLenO j) := by
  refine pe_conv (pe_callB call_len_seq hg hm PySem.boot_len (pa_cons (pe_var hN hv hdy hcd) pa_nil)) ?_
  rintro σ H Q ⟨ρ, own, d, ρ', h, R, k⟩
  unfold eLenO at h
  cases h0 : isOl ρ j with
  | none => simp only [h0] at h; cases h
  | some es0 =>
    simp only [h0] at h
    cases h
    obtain ⟨a, xs, q1, q2, q3, _⟩ := R.ownAt (isOl_some h0)
    refine ⟨.ref a, q1, a, xs, rfl, .inl (.of q2), ?_⟩
    rw [q3.len]
    exact k _ own H (.refl R) (.int _)
/-- own, as data from now on -/
def eTake (j : Nat) : M D := fun ρ => match isOl ρ j with
  | some es => some (.list es, ρ.set j (some (.dat (.list es))))
  | none => none
theorem q_take (j : Nat) {y : Str} (hN : X.N[j]? = some y := by rfl) (hv : Vis X.env.scope y := by first | exact Or.inl rfl | exact Or.inr (Or.inl rfl) | exact Or.inr (Or.inr rfl))
    (hdy : (y == ("__debug__" : Str)) = false := by decide) (hcd : (y == ("__classdict__" : Str)) = false := by decide) : QE X g (.Name y pos) (eTake j) := by
  refine pe_conv (pe_fz (pe_var hN hv hdy hcd)) ?_
  rintro σ H Q ⟨ρ, own, d, ρ', h, R, k⟩
  unfold eTake at h
  cases h0 : isOl ρ j with
  | none => simp only [h0] at h; cases h
  | some es0 =>
    simp only [h0] at h
    cases h
    obtain ⟨a, xs, q1, q2, q3, _⟩ := R.ownAt (isOl_some h0)
    refine ⟨.ref a, q1, .inr ⟨a, xs, rfl, q2, fun o => ?_⟩⟩
    obtain ⟨⟨ow, go⟩, im⟩ := R.freeze (isOl_some h0) q1 q2 q3 o
    exact k _ ow _ go im
/-- own.append(e) -/
def sApp (j : Nat) (f : M D) : MS := fun ρ => match isOl ρ j with
  | none => none
  | some _ => match f ρ with
    | some (d, ρ1) => (match isOl ρ1 j with
      | some es => if es.length < most then some (.nx, ρ1.set j (some (.ol (es ++ [d])))) else none
      | none => none)
    | none => none
theorem tyL {K : PySem.W.Frag} {a : Addr} {xs : List V} {H : Hp} (h : H a = some (.lst xs)) : tyV K "list" (.ref a) H := .inl ⟨rfl, _, .of h⟩
theorem q_app (j : Nat) {y : Str} {p2 p3 p4 : Pos} (hb : QE X g b f) (hN : X.N[j]? = some y := by rfl) (hv : Vis X.env.scope y := by first | exact Or.inl rfl | exact Or.inr (Or.inl rfl) | exact Or.inr (Or.inr rfl))
    (hdy : (y == ("__debug__" : Str)) = false := by decide) (hcd : (y == ("__classdict__" : Str)) = false := by decide) (hst : starEach [b] X.env = (false, eval b X.env) :: starEach [] X.env := by rfl)
    (hs : PA X [b] (tCons (xE X.K g f) tNil) → PE X (.Call (.Attribute (.Name y p2) "append" p3) [b] [] p4) (tBM X.K "list" rAppend (tVar j) (tCons (xE X.K g f) tNil)) := by
      exact fun h => pe_bm PySem.F.plainAttrs_list PySem.F.slot_list_append PySem.F.type_list_append mt_append (pv _) h)
    (hsw : swapsWith (.Call (.Attribute (.Name y p2) "append" p3) [b] [] p4) none pos.line X.env = pure false := by rfl) :
    QS X g (.Expr (.Call (.Attribute (.Name y p2) "append" p3) [b] [] p4) pos) (sApp j f) := by
  refine ps_conv (ps_expr (hs (pa_cons hb pa_nil hst)) hsw) ?_
  rintro Dn σ H ⟨ρ, own, fl, ρ', h, R, k⟩
  unfold sApp at h
  cases h0 : isOl ρ j with
  | none => simp only [h0] at h; cases h
  | some es0 =>
    simp only [h0] at h
    split at h
    · rename_i d ρ1 h1
      cases h2 : isOl ρ1 j with
      | none => simp only [h2] at h; cases h
      | some es1 =>
        simp only [h2] at h
        split at h
        · rename_i hz
          cases h
          obtain ⟨a, xs, q1, q2, _⟩ := R.ownAt (isOl_some h0)
          refine ⟨.ref a, q1, tyL q2, ρ, own, d, ρ1, h1, R, fun v ow1 H1 k1 i1 => ?_⟩
          obtain ⟨a2, xs2, p1, p2, p3, _⟩ := k1.rel.ownAt (isOl_some h2)
          rw [q1] at p1
          cases p1
          refine ⟨a, xs2, v, rfl, rfl, p2, by rw [p3.len]; exact Nat.lt_of_lt_of_le hz most_line, ?_⟩
          have kp : Kp g.T (B1 a) H1 (upd H1 a (.lst (xs2 ++ [v]))) := .write p2 trivial lst_code
          obtain ⟨ow2, go⟩ := k1.rel.change (isOl_some h2) q1 kp upd_same ((p3.append (.cons i1 .nil)).up kp.imm)
          exact k σ ow2 _ (k1.trans go)
        · cases h
    · cases h
/-- own[i] = e -/
def sSetO (j : Nat) (f : M D) (fi : M D) : MS := fun ρ => match f ρ with
  | none => none
  | some (d, ρ1) => match isOl ρ1 j with
    | none => none
    | some _ => match fi ρ1 with
      | some (.int i, ρ2) => (match isOl ρ2 j with
        | some es => (match ixN es.length i with | some m => some (.nx, ρ2.set j (some (.ol (es.set m d)))) | none => none)
        | none => none)
      | _ => none
theorem q_setO (j : Nat) {y : Str} {p2 p3 : Pos} (hb : QE X g b f) (hi : QE X g a fa) (hN : X.N[j]? = some y := by rfl) (hv : Vis X.env.scope y := by first | exact Or.inl rfl | exact Or.inr (Or.inl rfl) | exact Or.inr (Or.inr rfl))
    (hdy : (y == ("__debug__" : Str)) = false := by decide) (hcd : (y == ("__classdict__" : Str)) = false := by decide)
    (ha : ∀ v, assign (.Subscript (.Name y p2) a p3) X.env v = (do
      let ov ← holding [v] (eval (.Name y p2) X.env)
      let iv ← holding [v, ov] (eval a X.env)
      standAt p3
      holding [v, ov, iv] (setItem ov iv v)
      release [v, ov, iv] []) := by intro _; rfl)
    (hs : swapsWithSole [.Subscript (.Name y p2) a p3] b pos.line X.env = pure false := by rfl) (hw : swappedStores [.Subscript (.Name y p2) a p3] b X.env = pure none := by rfl)
    (h1 : (assignEach [.Subscript (.Name y p2) a p3] X.env).map (·.2) = [assign (.Subscript (.Name y p2) a p3) X.env] := by rfl) :
    QS X g (.Assign [.Subscript (.Name y p2) a p3] b pos) (sSetO j f fa) := by
  refine ps_conv (ps_asg hb (pg_sub (pe_var hN hv hdy hcd) hi set_list ha) hs hw h1) ?_
  rintro Dn σ H ⟨ρ, own, fl, ρ', h, R, k⟩
  unfold sSetO at h
  split at h
  · cases h
  · rename_i d ρ1 h1
    cases h0 : isOl ρ1 j with
    | none => simp only [h0] at h; cases h
    | some es0 =>
      simp only [h0] at h
      split at h
      · rename_i i ρ2 h2
        cases h3 : isOl ρ2 j with
        | none => simp only [h3] at h; cases h
        | some es1 =>
          simp only [h3] at h
          cases h4 : ixN es1.length i with
          | none => simp only [h4] at h; cases h
          | some m =>
            simp only [h4] at h
            cases h
            refine ⟨ρ, own, d, ρ1, h1, R, fun v ow1 H1 k1 i1 => ?_⟩
            obtain ⟨a, xs, q1, q2, _⟩ := k1.rel.ownAt (isOl_some h0)
            refine ⟨.ref a, q1, ρ1, ow1, _, ρ2, h2, k1.rel, fun iv ow2 H2 k2 i2 => ?_⟩
            obtain ⟨a2, xs2, p1, p2, p3, _⟩ := k2.rel.ownAt (isOl_some h3)
            rw [q1] at p1
            cases p1
            refine ⟨a, xs2, i, m, rfl, i2.ofInt, p2, by rw [p3.len]; exact h4, ?_⟩
            have kp : Kp g.T (B1 a) H2 (upd H2 a (.lst (xs2.set m v))) := .write p2 trivial lst_code
            obtain ⟨ow3, go⟩ := k2.rel.change (isOl_some h3) q1 kp upd_same ((p3.set m (k2.im i1)).up kp.imm)
            exact k σ ow3 _ ((k1.trans k2).trans go)
      · cases h
/-! ### what is walked -/
def iSeq : D → Option (List D)
  | .list ds => some ds
  | .tuple ds => some ds
  | _ => none
theorem draws_list {K : PySem.W.Frag} {H : Hp} {a : Addr} {xs : List V} {ds : List D} (h1 : FzL K H a xs) (h2 : ImAll K H xs ds) : DrawsD K (Itl K a) ds H := by
  intro H' k i
  have q := (h1.mono k).sq
  refine ⟨fun d hd => ?_, fun hd => ⟨xs, q, by rw [h2.len]; exact List.getElem?_eq_none_iff.mp hd⟩⟩
  obtain ⟨v, e1, e2⟩ := h2.get hd
  refine ⟨⟨xs, v, q, e1⟩, ?_⟩
  rintro x H'' ⟨rfl, y⟩
  have := y xs q
  rw [e1] at this
  cases this
  exact ⟨Same.refl _, e2.up k⟩
theorem draws_tup {K : PySem.W.Frag} {H : Hp} {a : Addr} {xs : List V} {ds : List D} (h1 : SqT K H a xs) (h2 : ImAll K H xs ds) : DrawsD K (Itt K a) ds H := by
  intro H' k i
  have q := sqT_mono k h1
  refine ⟨fun d hd => ?_, fun hd => ⟨xs, q, by rw [h2.len]; exact List.getElem?_eq_none_iff.mp hd⟩⟩
  obtain ⟨v, e1, e2⟩ := h2.get hd
  refine ⟨⟨xs, v, q, e1⟩, ?_⟩
  rintro x H'' ⟨rfl, y⟩
  have := y xs q
  rw [e1] at this
  cases this
  exact ⟨Same.refl _, e2.up k⟩
variable {tg : Expr}
/-- over a list, over a tuple -/
def iL : D → Option (List D)
  | .list ds => some ds
  | _ => none
def iT : D → Option (List D)
  | .tuple ds => some ds
  | _ => none
theorem qi_list (he : QE X g e f) : QI X g tg e (e1 iL f) := by
  refine pi_conv (pi_list he) ?_
  rintro σ H R ⟨ρ, own, ds, ρ', h, R0, k⟩
  obtain ⟨x, h1, h2⟩ := e1_some h
  refine ⟨ρ, own, x, ρ', h1, R0, fun v ow1 H1 k1 i1 => ?_⟩
  cases i1 with
  | lst q1 q2 =>
    cases h2
    exact ⟨_, rfl, ⟨_, q1.sq⟩, k _ ow1 H1 k1 (draws_list q1 q2)⟩
  | _ => cases h2
theorem qi_tup (he : QE X g e f) : QI X g tg e (e1 iT f) := by
  refine pi_conv (pi_tup he) ?_
  rintro σ H R ⟨ρ, own, ds, ρ', h, R0, k⟩
  obtain ⟨x, h1, h2⟩ := e1_some h
  refine ⟨ρ, own, x, ρ', h1, R0, fun v ow1 H1 k1 i1 => ?_⟩
  cases i1 with
  | tup q1 q2 =>
    cases h2
    exact ⟨_, rfl, ⟨_, q1⟩, k _ ow1 H1 k1 (draws_tup q1 q2)⟩
  | _ => cases h2
/-- a list or a tuple -/
def iSq (K : PySem.W.Frag) (tl : TE) : TI := fun σ H R => tl σ H fun x H1 => ∃ a, x = .ref a ∧ (((∃ xs, SqL K H1 a xs) ∧ R (Itl K a) H1) ∨ ((∃ xs, SqT K H1 a xs) ∧ R (Itt K a) H1))
theorem pi_seq {l : Expr} {tl : TE} (hl : PE X l tl) : PI X tg l (iSq X.K tl) := by
  refine ⟨fun pins s σ H R I h => ?_⟩
  refine thn (hl.run pins s σ H _ I h) fun v s1 ⟨x, H1, I1, r1, q1⟩ => ?_
  obtain ⟨a, e, q⟩ := q1
  subst e
  cases r1
  rcases q with ⟨⟨xs, hq⟩, q⟩ | ⟨⟨xs, hq⟩, q⟩
  · obtain ⟨its, rv, p, hz⟩ := I1.list hq
    refine wpAny_pyIter_list p.isList ?_
    refine ⟨s1.heap.objs.size, [s1.heap.objs.size], _, _, H1, rfl, I1.kept (t' := s1.toks) fun b o e => Heap.get?_push_of_some _ e, turn_list a _, ⟨_, Heap.get?_push_size _ rfl, rfl, rfl⟩, fun b hb => ?_, q⟩
    have e : b = s1.heap.objs.size := by simpa using hb
    subst e
    exact I1.fpOk (Nat.le_refl _) (I1.hok.fresh (Nat.le_refl _))
  · obtain ⟨its, rv, p, hz⟩ := I1.tuple hq
    refine wpAny_pyIter_tuple (show s1.heap.IsTuple a its.toArray from p) ?_
    refine ⟨s1.heap.objs.size, [s1.heap.objs.size], _, _, H1, rfl, I1.kept (t' := s1.toks) fun b o e => Heap.get?_push_of_some _ e, turn_tuple a _, ⟨_, Heap.get?_push_size _ rfl, rfl, rfl⟩, fun b hb => ?_, q⟩
    have e : b = s1.heap.objs.size := by simpa using hb
    subst e
    exact I1.fpOk (Nat.le_refl _) (I1.hok.fresh (Nat.le_refl _))
theorem qi_seq (he : QE X g e f) : QI X g tg e (e1 iSeq f) := by
  refine pi_conv (pi_seq he) ?_
  rintro σ H R ⟨ρ, own, ds, ρ', h, R0, k⟩
  obtain ⟨x, h1, h2⟩ := e1_some h
  refine ⟨ρ, own, x, ρ', h1, R0, fun v ow1 H1 k1 i1 => ?_⟩
  cases i1 with
  | tup q1 q2 =>
    cases h2
    exact ⟨_, rfl, .inr ⟨⟨_, q1⟩, k _ ow1 H1 k1 (draws_tup q1 q2)⟩⟩
  | lst q1 q2 =>
    cases h2
    exact ⟨_, rfl, .inl ⟨⟨_, q1.sq⟩, k _ ow1 H1 k1 (draws_list q1 q2)⟩⟩
  | _ => cases h2
/-- range(n), range(a, b) -/
def rgD (lo : Int) (n : Nat) : List D := (List.range n).map fun i => .int (lo + (i : Nat))
theorem draws_range {K : PySem.W.Frag} {H : Hp} {lo : Int} {n : Nat} : DrawsD K (Itr lo n) (rgD lo n) H := by
  intro H' k i
  unfold rgD
  refine ⟨fun d hd => ?_, fun hd => ?_⟩
  · rw [List.getElem?_map] at hd
    by_cases hi : i < n
    · rw [List.getElem?_range hi] at hd
      cases hd
      refine ⟨hi, ?_⟩
      rintro x H'' ⟨rfl, rfl⟩
      exact ⟨Same.refl _, .int _⟩
    · rw [List.getElem?_eq_none (by simpa using hi)] at hd
      cases hd
  · have := List.getElem?_eq_none_iff.mp hd
    simp at this
    exact this
def iR1 : List D → Option (List D)
  | [.int j] => if j.natAbs < 2 ^ 62 then some (rgD 0 j.toNat) else none
  | _ => none
def iR2 : List D → Option (List D)
  | [.int i, .int j] => if i.natAbs < 2 ^ 62 ∧ j.natAbs < 2 ^ 62 then some (rgD i (j - i).toNat) else none
  | _ => none
theorem qi_range1 {p : Pos} (hm : X.mg "range" = none) (ha : QA X g [a] fs) (hg : Gl X "range" := by rfl) (hs : starEach [a] X.env = [(false, eval a X.env)] := by rfl) : QI X g tg (.Call (.Name "range" p) [a] [] pos) (e1 iR1 fs) := by
  refine pi_conv (pi_range1 hg hm ha hs) ?_
  rintro σ H R ⟨ρ, own, ds, ρ', h, R0, k⟩
  obtain ⟨x, h1, h2⟩ := e1_some h
  refine ⟨ρ, own, x, ρ', h1, R0, fun vs ow1 H1 k1 i1 => ?_⟩
  unfold iR1 at h2
  split at h2
  · rename_i j
    split at h2
    · rename_i hj
      cases h2
      cases i1 with
      | cons i1 i2 =>
        cases i2
        exact ⟨j, by rw [i1.ofInt], by omega, by omega, k _ ow1 H1 k1 draws_range⟩
    · cases h2
  · cases h2
theorem qi_range2 {p : Pos} (hm : X.mg "range" = none) (ha : QA X g [a, b] fs) (hg : Gl X "range" := by rfl) (hs : starEach [a, b] X.env = [(false, eval a X.env), (false, eval b X.env)] := by rfl) (hs2 : starEach [b] X.env = [(false, eval b X.env)] := by rfl) :
    QI X g tg (.Call (.Name "range" p) [a, b] [] pos) (e1 iR2 fs) := by
  refine pi_conv (pi_range2 hg hm ha hs hs2) ?_
  rintro σ H R ⟨ρ, own, ds, ρ', h, R0, k⟩
  obtain ⟨x, h1, h2⟩ := e1_some h
  refine ⟨ρ, own, x, ρ', h1, R0, fun vs ow1 H1 k1 i1 => ?_⟩
  unfold iR2 at h2
  split at h2
  · rename_i i j
    split at h2
    · rename_i hj
      cases h2
      cases i1 with
      | cons i1 i2 =>
        cases i2 with
        | cons i2 i3 =>
          cases i3
          exact ⟨i, j, by rw [i1.ofInt, i2.ofInt], by omega, k _ ow1 H1 k1 draws_range⟩
    · cases h2
  · cases h2
/-- zip of two lists, of two tuples -/
def zipD (xs ys : List D) : List D := List.zipWith (fun x y => .tuple [x, y]) xs ys
def iZ : List D → Option (List D)
  | [.list xs, .list ys] => some (zipD xs ys)
  | [.tuple xs, .tuple ys] => some (zipD xs ys)
  | _ => none
theorem zip_some {xs ys : List D} {i : Nat} {d : D} (h : (zipD xs ys)[i]? = some d) : ∃ x y, xs[i]? = some x ∧ ys[i]? = some y ∧ d = .tuple [x, y] := by
  unfold zipD at h
  rw [List.getElem?_zipWith] at h
  cases h1 : xs[i]? with
  | none => rw [h1] at h; cases h
  | some x =>
    cases h2 : ys[i]? with
    | none => rw [h1, h2] at h; cases h
    | some y =>
      rw [h1, h2] at h
      cases h
      exact ⟨x, y, rfl, rfl, rfl⟩
theorem zip_none {xs ys : List D} {i : Nat} (h : (zipD xs ys)[i]? = none) : xs.length ≤ i ∨ ys.length ≤ i := by
  unfold zipD at h
  have := List.getElem?_eq_none_iff.mp h
  rw [List.length_zipWith] at this
  omega
theorem im_pair {K : PySem.W.Frag} {H : Hp} {T : Addr} {x y : V} {d e : D} (hn : H T = none) (h1 : Im K H x d) (h2 : Im K H y e) : Im K (upd H T (.tup [x, y])) (.ref T) (.tuple [d, e]) :=
  .tup (.of upd_same) (.cons (h1.up (.new hn)) (.cons (h2.up (.new hn)) .nil))
theorem draws_zipL {K : PySem.W.Frag} {H : Hp} {a b : Addr} {xs ys : List V} {ds es : List D} (h1 : FzL K H a xs) (h2 : ImAll K H xs ds) (h3 : FzL K H b ys) (h4 : ImAll K H ys es) : DrawsD K (Itz K a b) (zipD ds es) H := by
  intro H' k i
  have q := (h1.mono k).sq
  have q2 := (h3.mono k).sq
  refine ⟨fun d hd => ?_, fun hd => ⟨xs, ys, q, q2, by rw [h2.len, h4.len]; exact zip_none hd⟩⟩
  obtain ⟨x, y, e1, e2, rfl⟩ := zip_some hd
  obtain ⟨v, v1, v2⟩ := h2.get e1
  obtain ⟨w, w1, w2⟩ := h4.get e2
  refine ⟨⟨xs, ys, v, w, q, q2, v1, w1⟩, ?_⟩
  rintro z H'' ⟨T, x', y', rfl, hT, rfl, f1, f2⟩
  have e3 := f1 xs q
  have e4 := f2 ys q2
  rw [v1] at e3
  rw [w1] at e4
  cases e3
  cases e4
  exact ⟨fun b u e => by rw [upd_ne (ne_of_none e hT)]; exact e, im_pair hT (v2.up k) (w2.up k)⟩
theorem draws_zipT {K : PySem.W.Frag} {H : Hp} {a b : Addr} {xs ys : List V} {ds es : List D} (h1 : SqT K H a xs) (h2 : ImAll K H xs ds) (h3 : SqT K H b ys) (h4 : ImAll K H ys es) : DrawsD K (RZ.ItzT K a b) (zipD ds es) H := by
  intro H' k i
  have q := sqT_mono k h1
  have q2 := sqT_mono k h3
  refine ⟨fun d hd => ?_, fun hd => ⟨xs, ys, q, q2, by rw [h2.len, h4.len]; exact zip_none hd⟩⟩
  obtain ⟨x, y, e1, e2, rfl⟩ := zip_some hd
  obtain ⟨v, v1, v2⟩ := h2.get e1
  obtain ⟨w, w1, w2⟩ := h4.get e2
  refine ⟨⟨xs, ys, v, w, q, q2, v1, w1⟩, ?_⟩
  rintro z H'' ⟨T, x', y', rfl, hT, rfl, f1, f2⟩
  have e3 := f1 xs q
  have e4 := f2 ys q2
  rw [v1] at e3
  rw [w1] at e4
  cases e3
  cases e4
  exact ⟨fun b u e => by rw [upd_ne (ne_of_none e hT)]; exact e, im_pair hT (v2.up k) (w2.up k)⟩
theorem qi_zip {elts : List Expr} {kk : Nat} {p tpos : Pos} (hm : X.mg "zip" = none) (ha : QA X g [a, b] fs) (hg : Gl X "zip" := by rfl)
    (hs : starEach [a, b] X.env = (false, eval a X.env) :: starEach [b] X.env := by rfl) (hpl : (backTo pos (starEach [b] X.env)).any (·.1) = false := by rfl) :
    QI X g (.Tuple elts kk tpos) (.Call (.Name "zip" p) [a, b] [] pos) (e1 iZ fs) := by
  refine pi_conv (RZ.pi_zipA hg hm ha hs hpl) ?_
  rintro σ H R ⟨ρ, own, ds, ρ', h, R0, k⟩
  obtain ⟨x, h1, h2⟩ := e1_some h
  refine ⟨ρ, own, x, ρ', h1, R0, fun vs ow1 H1 k1 i1 => ?_⟩
  unfold iZ at h2
  split at h2
  · cases h2
    cases i1 with
    | cons i1 i2 =>
      cases i2 with
      | cons i2 i3 =>
        cases i3
        obtain ⟨a1, x1, rfl, q1, q2⟩ := i1.ofLst
        obtain ⟨a2, x2, rfl, q3, q4⟩ := i2.ofLst
        exact ⟨a1, a2, x1, x2, rfl, .inl ⟨q1.sq, q3.sq, k _ ow1 H1 k1 (draws_zipL q1 q2 q3 q4)⟩⟩
  · cases h2
    cases i1 with
    | cons i1 i2 =>
      cases i2 with
      | cons i2 i3 =>
        cases i3
        obtain ⟨a1, x1, rfl, q1, q2⟩ := i1.ofTup
        obtain ⟨a2, x2, rfl, q3, q4⟩ := i2.ofTup
        exact ⟨a1, a2, x1, x2, rfl, .inr ⟨q1, q3, k _ ow1 H1 k1 (draws_zipT q1 q2 q3 q4)⟩⟩
  · cases h2
end
end VS

namespace VS
open PySem PySem.Spec PyProof.Rows L2

/-! ### comprehensions -/
def wipeR (ρ : Rho) : List Nat → Rho
  | [] => ρ
  | v :: vs => (wipeR ρ vs).set v none
def okW (ρ : Rho) (vs : List Nat) : Bool := vs.all fun v => match isOl ρ v with
  | none => true
  | some _ => false
/-- the slots vs as they were in ρ1 -/
def restR (ρ1 ρ : Rho) : List Nat → Rho
  | [] => ρ
  | v :: vs => (restR ρ1 ρ vs).set v (ρ1[v]?.join)
def lcGo (t : D → Rho → Option Rho) (c : M Bool) (e : M D) (vs : List Nat) : List D → Rho → Option (List D × Rho)
  | [], ρ => some ([], ρ)
  | d :: r, ρ => match t d ρ with
    | none => none
    | some ρ1 => match c ρ1 with
      | none => none
      | some (false, ρ2) => lcGo t c e vs r (wipeR ρ2 vs)
      | some (true, ρ2) => match e ρ2 with
        | none => none
        | some (y, ρ3) => match lcGo t c e vs r (wipeR ρ3 vs) with
          | none => none
          | some (ys, ρ4) => some (y :: ys, ρ4)
def eLc (it : M (List D)) (t : D → Rho → Option Rho) (c : M Bool) (e : M D) (vs : List Nat) : M D := fun ρ => match it ρ with
  | none => none
  | some (ds, ρ1) => if okW ρ1 vs then (match lcGo t c e vs ds (wipeR ρ1 vs) with
    | none => none
    | some (ys, ρ2) => if ys.length ≤ most then some (.list ys, restR ρ1 ρ2 vs) else none) else none
def tYesM : M Bool := fun ρ => some (true, ρ)

section
variable {K : PySem.W.Frag} {g : Gx} {σ : L2.St} {ρ ρ1 : Rho} {own : Own} {H : Hp}
theorem okW_nil {vs : List Nat} (h : okW ρ vs = true) {v : Nat} (hv : v ∈ vs) (r : RelE K g σ ρ own H) : own v = [] := by
  unfold okW at h
  have q := List.all_eq_true.mp h v hv
  have c := r.ct v
  unfold Holds at c
  split at c
  · rename_i sv h1
    obtain ⟨w, _, rs⟩ := c
    generalize own v = ov at rs
    cases rs with
    | dat _ => rfl
    | @ol _ _ ds _ _ =>
      unfold isOl at q
      rw [h1] at q
      cases q
  · exact c
theorem wipeR_len (ρ : Rho) : ∀ vs, (wipeR ρ vs).length = ρ.length
  | [] => rfl
  | v :: vs => by unfold wipeR; rw [List.length_set, wipeR_len ρ vs]
theorem wipe_not {σ : L2.St} {i : Nat} : ∀ {vs : List Nat}, i ∉ vs → (wipe σ vs)[i]? = σ[i]?
  | [], _ => rfl
  | v :: vs, h => by
    unfold wipe
    rw [List.getElem?_set_ne (fun z => h (by simp [z]))]
    exact wipe_not fun z => h (List.mem_cons_of_mem _ z)
theorem wipeR_not {i : Nat} : ∀ {vs : List Nat}, i ∉ vs → (wipeR ρ vs)[i]? = ρ[i]?
  | [], _ => rfl
  | v :: vs, h => by
    unfold wipeR
    rw [List.getElem?_set_ne (fun z => h (by simp [z]))]
    exact wipeR_not fun z => h (List.mem_cons_of_mem _ z)
theorem wipeR_in {i : Nat} : ∀ {vs : List Nat}, i ∈ vs → ∀ sv, (wipeR ρ vs)[i]? ≠ some (some sv)
  | [], h, _, _ => by cases h
  | v :: vs, h, sv, e => by
    unfold wipeR at e
    by_cases z : v = i
    · subst z
      by_cases hl : v < (wipeR ρ vs).length
      · rw [List.getElem?_set_self hl] at e; cases e
      · rw [List.getElem?_eq_none (by rw [List.length_set]; omega)] at e; cases e
    · rw [List.getElem?_set_ne z] at e
      exact wipeR_in (by simpa [Ne.symm z] using h) sv e
def wipeO (own : Own) (vs : List Nat) : Own := fun i => if i ∈ vs then [] else own i
theorem wipeO_in {vs : List Nat} {i : Nat} (h : i ∈ vs) : wipeO own vs i = [] := if_pos h
theorem wipeO_not {vs : List Nat} {i : Nat} (h : i ∉ vs) : wipeO own vs i = own i := if_neg h
theorem wipeO_mem {vs : List Nat} {i : Nat} {a : Addr} (h : a ∈ wipeO own vs i) : a ∈ own i := by
  by_cases hi : i ∈ vs
  · rw [wipeO_in hi] at h; cases h
  · rwa [wipeO_not hi] at h
theorem wipeO_sub {vs : List Nat} {a : Addr} (h : InO (wipeO own vs) a) : InO own a := let ⟨i, hi⟩ := h; ⟨i, wipeO_mem hi⟩
theorem RelE.wipe (r : RelE K g σ ρ own H) (vs : List Nat) : RelE K g (L2.wipe σ vs) (wipeR ρ vs) (wipeO own vs) H := by
  refine ⟨r.tb, (wipe_length σ vs).trans r.len, fun i j a hi hj => r.dj i j a (wipeO_mem hi) (wipeO_mem hj), fun i => ?_⟩
  by_cases hi : i ∈ vs
  · rw [wipeO_in hi]
    unfold Holds
    split
    · rename_i sv h1
      exact absurd h1 (wipeR_in hi sv)
    · rfl
  · rw [wipe_not hi, wipeR_not hi, wipeO_not hi]
    exact r.ct i
theorem restR_not {ρ1 : Rho} {i : Nat} : ∀ {vs : List Nat}, i ∉ vs → (restR ρ1 ρ vs)[i]? = ρ[i]?
  | [], _ => rfl
  | v :: vs, h => by
    unfold restR
    rw [List.getElem?_set_ne (fun z => h (by simp [z]))]
    exact restR_not fun z => h (List.mem_cons_of_mem _ z)
theorem restR_in {ρ1 : Rho} {i : Nat} {sv : SV} : ∀ {vs : List Nat}, i ∈ vs → (restR ρ1 ρ vs)[i]? = some (some sv) → ρ1[i]? = some (some sv)
  | [], h, _ => by cases h
  | v :: vs, h, e => by
    unfold restR at e
    by_cases z : v = i
    · subst z
      by_cases hl : v < (restR ρ1 ρ vs).length
      · rw [List.getElem?_set_self hl] at e
        have e := Option.some.inj e
        cases h1 : ρ1[v]? with
        | none => rw [h1] at e; cases e
        | some o => rw [h1] at e; exact congrArg some e
      · rw [List.getElem?_eq_none (by rw [List.length_set]; omega)] at e; cases e
    · rw [List.getElem?_set_ne z] at e
      exact restR_in (by simpa [Ne.symm z] using h) e
/-- back from the block -/
theorem RelE.rest {H1 : Hp} {own1 : Own} (r1 : RelE K g σ ρ1 own1 H1) {vs : List Nat} (hw : okW ρ1 vs = true) (im : ImKeep H1 H) (r : RelE K g (L2.wipe σ vs) ρ own H) :
    RelE K g σ (restR ρ1 ρ vs) (wipeO own vs) H := by
  refine ⟨r.tb, r1.len, fun i j a hi hj => r.dj i j a (wipeO_mem hi) (wipeO_mem hj), fun i => ?_⟩
  by_cases h1 : i ∈ vs
  · rw [wipeO_in h1]
    unfold Holds
    split
    · rename_i sv h2
      have h3 := restR_in h1 h2
      have e := okW_nil hw h1 r1
      have c := r1.ct i
      rw [h3, e] at c
      obtain ⟨w, w1, w2⟩ := c
      cases w2 with
      | dat q => exact ⟨w, w1, .dat (q.up im)⟩
    · rfl
  · rw [wipeO_not h1, restR_not h1, ← wipe_not (σ := σ) h1]
    exact r.ct i
theorem wipe_same {ts vs : List Nat} (hts : ∀ i ∈ ts, i ∈ vs) {σ σ' : L2.St} (h : SameOut ts (L2.wipe σ vs) σ') : L2.wipe σ' vs = L2.wipe σ vs := by
  have hl : (L2.wipe σ' vs).length = (L2.wipe σ vs).length := by rw [wipe_length, h.1]
  refine List.ext_getElem? fun i => ?_
  by_cases hi : i ∈ vs
  · have key : ∀ (s : L2.St), (∀ x, (L2.wipe s vs)[i]? ≠ some (some x)) := fun s x e => (wipe_some e).2 hi
    cases e1 : (L2.wipe σ' vs)[i]? with
    | none =>
      have := List.getElem?_eq_none_iff.mp e1
      rw [hl] at this
      exact (List.getElem?_eq_none_iff.mpr this).symm
    | some o =>
      cases o with
      | some x => exact absurd e1 (key _ x)
      | none =>
        have hlt := (List.getElem?_eq_some_iff.mp e1).1
        rw [hl] at hlt
        cases e2 : (L2.wipe σ vs)[i]? with
        | none => exact absurd (List.getElem?_eq_none_iff.mp e2) (by omega)
        | some o2 =>
          cases o2 with
          | none => rfl
          | some x => exact absurd e2 (key _ x)
  · rw [wipe_not hi, h.2 i (fun z => hi (hts i z))]
end

section
variable {X : Cx} {g : Gx} {pos : Pos}
abbrev QTs (X : Cx) (g : Gx) (ifs : List Expr) (f : M Bool) : Prop := PTs X ifs (xT X.K g f)
theorem pts_conv {X : Cx} {e : List Expr} {t t' : TT} (h : PTs X e t) (c : ∀ σ H Q, t' σ H Q → t σ H Q) : PTs X e t' := ⟨fun pins s σ H Q I q => h.run pins s σ H Q I (c σ H Q q)⟩
theorem qts_nil : QTs X g [] tYesM := by
  refine pts_conv pts_nil ?_
  rintro σ H Q ⟨ρ, own, d, ρ', h, R, k⟩
  cases h
  exact k own H (.refl R)
theorem qts_one {c : Expr} {f : M Bool} (h : QT X g c f) : QTs X g [c] f := pts_one h
theorem lc_of {K : PySem.W.Frag} {fi : M (List D)} {t : D → Rho → Option Rho} {ts vs : List Nat} {c : M Bool} {e : M D} (hts : ∀ i ∈ ts, i ∈ vs) :
    ∀ σ H Q, xE K g (eLc fi t c e vs) σ H Q → tFz (tLc (xI K g fi) (xG K g t ts) (xT K g c) (xE K g e) vs) σ H Q := by
  rintro σ H Q ⟨ρ, own, d, ρ', h, R, k⟩
  unfold eLc at h
  split at h
  · cases h
  rename_i ds ρ1 h1
  split at h
  · rename_i hw
    split at h
    · cases h
    rename_i ys ρ2 h2
    split at h
    · rename_i hz
      cases h
      refine ⟨ρ, own, ds, ρ1, h1, R, fun J ow1 H1 k1 dr p hp => ?_⟩
      have r1 := k1.rel
      have rw1 := r1.wipe vs
      have np1 : ¬ InO ow1 p := r1.notIn hp
      -- from the block's start on: what may change belongs to the slots
      refine ⟨fun i m H2 => m = ds.length - i ∧ i ≤ ds.length ∧ ∃ ρi ow2 acc ads yr, Go K g (L2.wipe σ vs) ow1 H1 (L2.wipe σ vs) ρi ow2 H2 ∧ ¬ InO ow2 p ∧ H2 p = some (.lst acc) ∧ ImAll K H2 acc ads ∧ lcGo t c e vs (ds.drop i) ρi = some (yr, ρ2) ∧ ads ++ yr = ys,
        ⟨_, rfl, Nat.zero_le _, wipeR ρ1 vs, wipeO ow1 vs, [], [], ys, ⟨.new hp, fun a z => .inl (wipeO_sub z), fun _ _ => rfl, (rw1.goNew hp).rel⟩, fun z => np1 (wipeO_sub z), upd_same, .nil, h2, rfl⟩, ?_⟩
      rintro i m H2 ⟨rfl, hi, ρi, ow2, acc, ads, yr, k2, np, hp2, ia, hg, ey⟩
      obtain ⟨dr1, dr2⟩ := dr H2 k2.kp.imm i
      cases hd : ds[i]? with
      | none =>
        refine .inl ⟨dr2 hd, ?_⟩
        have hl : ds.length ≤ i := List.getElem?_eq_none_iff.mp hd
        rw [List.drop_of_length_le hl] at hg
        cases hg
        rw [List.append_nil] at ey
        subst ey
        refine .inr ⟨p, acc, rfl, hp2, fun o => ?_⟩
        have kw : Kp g.T (B1 p) H2 (upd H2 p (.frz o (.lst acc))) := .write hp2 trivial lst_code
        have rf := k2.rel.off np kw
        have kk : Kp g.T (InO ow1) H1 (upd H2 p (.frz o (.lst acc))) := k2.kp.trans kw fun b z => .inr (by rw [z]; exact hp)
        refine k (.ref p) _ _ ⟨k1.kp.trans kk k1.sub, fun a z => ?_, fun _ _ => rfl, r1.rest hw kk.imm rf⟩ (.lst (.inl ⟨o, upd_same⟩) (ia.up kw.imm))
        rcases k2.sub a (wipeO_sub z) with z | z
        · exact k1.sub a z
        · exact .inr (k1.kp.free z)
      | some d =>
        obtain ⟨go, yl⟩ := dr1 d hd
        have hlt : i < ds.length := (List.getElem?_eq_some_iff.mp hd).1
        rw [drop_get hd, lcGo] at hg
        cases ht : t d ρi with
        | none => simp only [ht] at hg; cases hg
        | some ρ3 =>
          simp only [ht] at hg
          cases hc : c ρ3 with
          | none => simp only [hc] at hg; cases hg
          | some q =>
            obtain ⟨b, ρ4⟩ := q
            simp only [hc] at hg
            refine .inr ⟨go, fun H' => ∃ ρi ow2 acc ads yr, Go K g (L2.wipe σ vs) ow1 H1 (L2.wipe σ vs) ρi ow2 H' ∧ ¬ InO ow2 p ∧ H' p = some (.lst acc) ∧ ImAll K H' acc ads ∧ lcGo t c e vs (ds.drop (i + 1)) ρi = some (yr, ρ2) ∧ ads ++ yr = ys,
              fun H' n' => ⟨ds.length - (i + 1), by omega, rfl, by omega, n'⟩, fun x H3 y => ?_⟩
            obtain ⟨sm, im⟩ := yl x H3 y
            have s3 := k2.rel.goSame sm
            refine ⟨d, ρi, ow2, ρ3, ht, im, s3.rel, fun σ4 ow4 H4 k4 so => ?_⟩
            have ew := wipe_same hts so
            refine ⟨ew, ρ3, ow4, b, ρ4, hc, k4.rel, fun ow5 H5 k5 => ?_⟩
            have k35 := (s3.trans k4).trans k5
            -- what comes back to the block's slots
            have back : ∀ {ρ6 : Rho} {ow6 : Own} {H6 : Hp}, Go K g (L2.wipe σ vs) ow2 H2 σ4 ρ6 ow6 H6 → Go K g (L2.wipe σ vs) ow2 H2 (L2.wipe σ vs) (wipeR ρ6 vs) (wipeO ow6 vs) H6 := fun {ρ6 ow6 H6} k6 =>
              ⟨k6.kp, fun a z => k6.sub a (wipeO_sub z), fun _ _ => rfl, by have := k6.rel.wipe vs; rw [ew] at this; exact this⟩
            have stays : ∀ {ρ6 : Rho} {ow6 : Own} {H6 : Hp}, Go K g (L2.wipe σ vs) ow2 H2 (L2.wipe σ vs) ρ6 ow6 H6 → H6 p = some (.lst acc) ∧ ¬ InO ow6 p := fun {ρ6 ow6 H6} k6 =>
              ⟨k6.kp.ext p _ hp2 np (fun _ z => by cases z), fun z => (k6.sub p z).elim np fun q => by rw [hp2] at q; cases q⟩
            cases b with
            | false =>
              simp only [hc] at hg
              have kb := back k35
              obtain ⟨q1, q2⟩ := stays kb
              refine iteF ?_
              exact ⟨_, _, acc, ads, yr, k2.trans kb, q2, q1, kb.ims ia, hg, ey⟩
            | true =>
              simp only [hc] at hg
              cases hv : e ρ4 with
              | none => simp only [hv] at hg; cases hg
              | some q =>
                obtain ⟨yv, ρ5⟩ := q
                simp only [hv] at hg
                split at hg
                · cases hg
                · rename_i yr' ρ6 h6
                  cases hg
                  refine iteT ?_
                  refine ⟨ρ4, ow5, yv, ρ5, hv, k5.rel, fun v ow6 H6 k6 i6 => ?_⟩
                  have kb := back (k35.trans k6)
                  obtain ⟨q1, q2⟩ := stays kb
                  have ia6 := kb.ims ia
                  refine ⟨acc, q1, ?_, ?_⟩
                  · rw [ia6.len]
                    refine Nat.lt_of_lt_of_le (m := most) ?_ most_line
                    rw [← ey, List.length_append, List.length_cons] at hz
                    omega
                  · have kw : Kp g.T (B1 p) H6 (upd H6 p (.lst (acc ++ [v]))) := .write q1 trivial lst_code
                    have kt := k2.trans kb
                    refine ⟨_, _, acc ++ [v], ads ++ [yv], yr', ⟨kt.kp.trans kw fun b z => .inr (by rw [z]; exact hp), kt.sub, kt.pin, kt.rel.off q2 kw⟩, q2, upd_same, (ia6.append (.cons i6 .nil)).up kw.imm, h6, ?_⟩
                    rw [List.append_assoc]
                    exact ey
    · cases h
  · cases h
variable {elt tg iter : Expr} {ifs : List Expr} {scope : Scope} {fi : M (List D)} {t : D → Rho → Option Rho} {ts : List Nat} {c : M Bool} {fe : M D}
theorem q_lc (own : List (Str × Nat)) (hN : X.N.Nodup) (hi : QI X g tg iter fi) (ok : BlkOk X.N X.env.scope scope own) (hts : ∀ i ∈ ts, i ∈ own.map (·.2))
    (hg : ∀ (s : Shared) (H : Hp) (C : Addr) (cl : List (Str × Addr)) (fp : List Addr), QG (X.blk s H scope (compEnvC scope cl C X.env) fp) g tg t ts) (ht : ∀ (s : Shared) (H : Hp) (C : Addr) (cl : List (Str × Addr)) (fp : List Addr), QTs (X.blk s H scope (compEnvC scope cl C X.env) fp) g ifs c)
    (he : ∀ (s : Shared) (H : Hp) (C : Addr) (cl : List (Str × Addr)) (fp : List Addr), QE (X.blk s H scope (compEnvC scope cl C X.env) fp) g elt fe) (hc : X.calm = true := by rfl) (hs : ∀ x, foldedSetIterable iter X.env x = pure x := by intro _; rfl) :
    QE X g (.ListComp elt [⟨tg, iter, ifs, 0⟩] scope pos) (eLc fi t c fe (own.map (·.2))) :=
  pe_conv (pe_fz (pe_lc hc hN hi ok hg ht he hs)) (lc_of hts)
/-- name = [..] on one line: the new list is frozen behind the store -/
theorem inv_fin {pins : List (Addr × Obj)} {σ : L2.St} {H : Hp} {s : Shared} {v : V} {Q : VK} (I : Inv X pins σ H s) (h : Fin v H Q) : ∃ H', Inv X pins σ H' s ∧ Q v H' := by
  rcases h with h | ⟨a, xs, rfl, e, h⟩
  · exact ⟨H, I, h⟩
  · obtain ⟨o, I2⟩ := I.lock e trivial
    exact ⟨_, I2, h o⟩
theorem q_setLc (own : List (Str × Nat)) (i : Nat) {y : Str} {py spos : Pos} (hN : X.N.Nodup) (hi : QI X g tg iter fi) (ok : BlkOk X.N X.env.scope scope own) (hts : ∀ i ∈ ts, i ∈ own.map (·.2))
    (hsw : swapsWith (.ListComp elt [⟨tg, iter, ifs, 0⟩] scope pos) (some (.Name y py)) spos.line X.env = pure true)
    (hg : ∀ (s : Shared) (H : Hp) (C : Addr) (cl : List (Str × Addr)) (fp : List Addr), QG (X.blk s H scope (compEnvC scope cl C X.env) fp) g tg t ts) (ht : ∀ (s : Shared) (H : Hp) (C : Addr) (cl : List (Str × Addr)) (fp : List Addr), QTs (X.blk s H scope (compEnvC scope cl C X.env) fp) g ifs c)
    (he : ∀ (s : Shared) (H : Hp) (C : Addr) (cl : List (Str × Addr)) (fp : List Addr), QE (X.blk s H scope (compEnvC scope cl C X.env) fp) g elt fe) (hl : okSlot g i = true := by rfl) (hy : X.N[i]? = some y := by rfl) (hyl : X.env.scope.names.lookup y = some .local := by rfl)
    (hc : X.calm = true := by rfl) (hs : ∀ x, foldedSetIterable iter X.env x = pure x := by intro _; rfl) :
    QS X g (.Assign [.Name y py] (.ListComp elt [⟨tg, iter, ifs, 0⟩] scope pos) spos) (sAsg (eLc fi t c fe (own.map (·.2))) (gName i)) := by
  have h0 := ps_setLc (i := i) (g := xG X.K g t ts) (tt := xT X.K g c) (te := xE X.K g fe) hc hN hy hyl hsw hi ok hg ht he hs
  refine ⟨fun pins s σ H Dn I hw => ?_⟩
  obtain ⟨ρ, ow, fl, ρ', h, R, k⟩ := hw
  unfold sAsg at h
  split at h
  · rename_i d ρ1 h1
    cases h
    -- the store first, the lock behind it
    have key : tLc (xI X.K g fi) (xG X.K g t ts) (xT X.K g c) (xE X.K g fe) (own.map (·.2)) σ H (fun v H1 => Fin v H1 fun v H2 => Dn.nx (σ.set i (some v)) H2) :=
      lc_of hts σ H _ ⟨ρ, ow, d, ρ1, h1, R, fun v ow1 H1 k1 i1 => let ⟨ow2, go⟩ := k1.rel.set hl i1; k _ ow2 H1 (k1.trans go)⟩
    have run := h0.run pins s σ H ⟨fun σ' H1 => ∃ v, σ' = σ.set i (some v) ∧ Fin v H1 fun v H2 => Dn.nx (σ.set i (some v)) H2, Dn.rt, Dn.bk, Dn.ct⟩ I (by
      show tLc _ _ _ _ _ σ H fun x H1 => ∃ v, σ.set i (some x) = σ.set i (some v) ∧ _
      refine (show ∀ (Q Q' : VK), (∀ v H1, Q v H1 → Q' v H1) → tLc (xI X.K g fi) (xG X.K g t ts) (xT X.K g c) (xE X.K g fe) (own.map (·.2)) σ H Q → tLc (xI X.K g fi) (xG X.K g t ts) (xT X.K g c) (xE X.K g fe) (own.map (·.2)) σ H Q' from ?_) _ _ (fun v H1 q => ⟨v, rfl, q⟩) key
      intro Q Q' hq hk
      obtain ⟨ρa, owa, ds, ρb, a1, a2, a3⟩ := hk
      refine ⟨ρa, owa, ds, ρb, a1, a2, fun J ow1 H1 k1 dr D hD => ?_⟩
      obtain ⟨W, w0, wn⟩ := a3 J ow1 H1 k1 dr D hD
      exact ⟨W, w0, fun i m H2 hw => (wn i m H2 hw).elim (fun z => .inl ⟨z.1, hq _ _ z.2⟩) .inr⟩)
    refine thn run fun f s' q => ?_
    cases f with
    | next =>
      obtain ⟨σ', H', I', v, rfl, q⟩ := q
      obtain ⟨H2, I2, q2⟩ := inv_fin I' q
      exact ⟨_, H2, I2, q2⟩
    | brk => exact q
    | cont => exact q
    | ret u => exact q
  · cases h
end
end VS

namespace VS
open PySem PySem.Spec PyProof.Rows L2

def orE (f f' : D → D → Option D) : D → D → Option D := fun x y => match f x y with
  | some z => some z
  | none => f' x y
def orL (f f' : List D → Option D) : List D → Option D := fun xs => match f xs with
  | some z => some z
  | none => f' xs
section
variable {X : Cx} {op : Value → Value → Sem Value} {f f' : D → D → Option D}
theorem Op2.or (h : Op2 X op f) (h' : Op2 X op f') : Op2 X op (orE f f') := by
  obtain ⟨r, h1, h2⟩ := h
  obtain ⟨r', h1', h2'⟩ := h'
  refine ⟨_, h1.or h1', fun x y dx dy dz H Q i1 i2 h q => ?_⟩
  unfold orE at h
  cases e : f dx dy with
  | some z =>
    rw [e] at h
    cases h
    exact .inl (h2 x y dx dy dz H Q i1 i2 e q)
  | none =>
    rw [e] at h
    exact .inr (h2' x y dx dy dz H Q i1 i2 h q)
theorem Ix2.or (h : Ix2 X f) (h' : Ix2 X f') : Ix2 X (orE f f') := by
  obtain ⟨r, h1, h2⟩ := h
  obtain ⟨r', h1', h2'⟩ := h'
  refine ⟨_, h1.or h1', fun x y dx dy dz H Q i1 i2 h q => ?_⟩
  unfold orE at h
  cases e : f dx dy with
  | some z =>
    rw [e] at h
    cases h
    exact .inl (h2 x y dx dy dz H Q i1 i2 e q)
  | none =>
    rw [e] at h
    exact .inr (h2' x y dx dy dz H Q i1 i2 h q)
theorem Fn1.or {fn : Value} {f f' : List D → Option D} (h : Fn1 X fn f) (h' : Fn1 X fn f') : Fn1 X fn (orL f f') := by
  obtain ⟨r, h1, h2⟩ := h
  obtain ⟨r', h1', h2'⟩ := h'
  refine ⟨_, h1.or h1', fun vs ds dz H Q i1 h q => ?_⟩
  unfold orL at h
  cases e : f ds with
  | some z =>
    rw [e] at h
    cases h
    exact .inl (h2 vs ds dz H Q i1 e q)
  | none =>
    rw [e] at h
    exact .inr (h2' vs ds dz H Q i1 h q)
end

/-! ### arithmetic -/
def iAdd : D → D → Option D
  | .int i, .int j => some (.int (i + j))
  | _, _ => none
def iSub : D → D → Option D
  | .int i, .int j => some (.int (i - j))
  | _, _ => none
def iMul : D → D → Option D
  | .int i, .int j => if i.natAbs < 2 ^ 64 ∨ j.natAbs < 2 ^ 64 then some (.int (i * j)) else none
  | _, _ => none
def iMod : D → D → Option D
  | .int i, .int j => if 0 < j then some (.int (i % j)) else none
  | _, _ => none
def iDiv : D → D → Option D
  | .int i, .int j => if 0 < j ∧ j.natAbs < 1073741824 then some (.int (i / j)) else none
  | _, _ => none
def iPow : D → D → Option D
  | .int i, .int j => if 0 ≤ j ∧ j.natAbs ≤ 1000000 ∧ i.natAbs < 2 ^ 64 then some (.int (i ^ j.toNat)) else none
  | _, _ => none
def iCmp (p : Int → Int → Bool) : D → D → Option D
  | .int i, .int j => some (.bool (p i j))
  | _, _ => none
section
variable {X : Cx}
theorem two_int {f : D → D → Option D} {dx dy dz : D} (h : f dx dy = some dz) (hf : ∀ x y, f x y ≠ none → ∃ i j, x = .int i ∧ y = .int j) : ∃ i j, dx = .int i ∧ dy = .int j := hf dx dy (by rw [h]; intro z; cases z)
theorem o_iadd : Op2 X (binaryOp .Add) iAdd := ⟨_, op_add, fun x y dx dy dz H Q i1 i2 h q => by
  unfold iAdd at h
  split at h
  · cases h
    exact ⟨_, _, i1.ofInt, i2.ofInt, q.int⟩
  · cases h⟩
theorem o_isub : Op2 X (binaryOp .Sub) iSub := ⟨_, op_sub, fun x y dx dy dz H Q i1 i2 h q => by
  unfold iSub at h
  split at h
  · cases h
    exact ⟨_, _, i1.ofInt, i2.ofInt, q.int⟩
  · cases h⟩
theorem o_imul : Op2 X (binaryOp .Mult) iMul := ⟨_, op_mul, fun x y dx dy dz H Q i1 i2 h q => by
  unfold iMul at h
  split at h
  · split at h
    · rename_i hc
      cases h
      exact ⟨_, _, i1.ofInt, i2.ofInt, (by unfold CMul; omega), q.int⟩
    · cases h
  · cases h⟩
theorem o_imod : Op2 X (binaryOp .Mod) iMod := ⟨_, op_mod, fun x y dx dy dz H Q i1 i2 h q => by
  unfold iMod at h
  split at h
  · split at h
    · rename_i hc
      cases h
      exact ⟨_, _, i1.ofInt, i2.ofInt, hc, q.int⟩
    · cases h
  · cases h⟩
theorem o_idiv : Op2 X (binaryOp .FloorDiv) iDiv := ⟨_, op_fdiv, fun x y dx dy dz H Q i1 i2 h q => by
  unfold iDiv at h
  split at h
  · split at h
    · rename_i hc
      cases h
      exact ⟨_, _, i1.ofInt, i2.ofInt, ⟨hc.1, by have := hc.2; omega⟩, q.int⟩
    · cases h
  · cases h⟩
theorem o_ipow : Op2 X (binaryOp .Pow) iPow := ⟨_, op_pow, fun x y dx dy dz H Q i1 i2 h q => by
  unfold iPow at h
  split at h
  · split at h
    · rename_i hc
      cases h
      exact ⟨_, _, i1.ofInt, i2.ofInt, ⟨hc.1, by have := hc.2.1; omega, hc.2.2⟩, q.int⟩
    · cases h
  · cases h⟩
theorem o_icmp {op : CmpOp} {p : Int → Int → Bool} (h : OpR X (compareOp op) (rI0 fun i j => .bl (p i j))) : Op2 X (compareOp op) (iCmp p) := ⟨_, h, fun x y dx dy dz H Q i1 i2 h q => by
  unfold iCmp at h
  split at h
  · cases h
    exact ⟨_, _, i1.ofInt, i2.ofInt, q.bl⟩
  · cases h⟩
def dLt := iCmp fun i j => decide (i < j)
def dLe := iCmp fun i j => decide (i ≤ j)
def dGt := iCmp fun i j => decide (j < i)
def dGe := iCmp fun i j => decide (j ≤ i)
theorem o_lt : Op2 X (compareOp .Lt) dLt := o_icmp op_lt
theorem o_le : Op2 X (compareOp .LtE) dLe := o_icmp op_le
theorem o_gt : Op2 X (compareOp .Gt) dGt := o_icmp op_gt
theorem o_ge : Op2 X (compareOp .GtE) dGe := o_icmp op_ge

/-! ### joined, repeated -/
def sAdd : D → D → Option D
  | .str i, .str j => if i.length + j.length ≤ most then some (.str (i ++ j)) else none
  | _, _ => none
def tAdd : D → D → Option D
  | .tuple xs, .tuple ys => if xs.length + ys.length ≤ most then some (.tuple (xs ++ ys)) else none
  | _, _ => none
def lAdd : D → D → Option D
  | .list xs, .list ys => if xs.length + ys.length ≤ most then some (.list (xs ++ ys)) else none
  | _, _ => none
theorem o_sadd : Op2 X (binaryOp .Add) sAdd := ⟨_, op_add_str, fun x y dx dy dz H Q i1 i2 h q => by
  unfold sAdd at h
  split at h
  · split at h
    · rename_i hc
      cases h
      exact ⟨_, _, i1.ofStr, i2.ofStr, Nat.le_trans hc most_line, q.str⟩
    · cases h
  · cases h⟩
theorem o_tadd : Op2 X (binaryOp .Add) tAdd := ⟨_, op_catA, fun x y dx dy dz H Q i1 i2 h q => by
  unfold tAdd at h
  split at h
  · split at h
    · rename_i hc
      cases h
      obtain ⟨a, xs, rfl, s1, q1⟩ := i1.ofTup
      obtain ⟨b, ys, rfl, s2, q2⟩ := i2.ofTup
      refine ⟨a, b, xs, ys, rfl, rfl, s1, s2, by rw [q1.len, q2.len]; exact Nat.le_trans hc most_line, fun e => ?_, fun _ e => ?_, fun _ _ p hp => q.tup hp (q1.append q2)⟩
      · subst e
        cases q1
        exact q.same (.tup s2 q2)
      · subst e
        cases q2
        rw [List.append_nil] at q
        exact q.same (.tup s1 q1)
    · cases h
  · cases h⟩
/-- frozen lists joined -/
def rCatF (K : PySem.W.Frag) : R2 := fun x y H Q => ∃ l b xs zs, x = .ref l ∧ y = .ref b ∧ FzL K H l xs ∧ FzL K H b zs ∧ xs.length + zs.length ≤ sizeLine ∧ ∀ p, H p = none → Q (.ref p) (upd H p (.lst (xs ++ zs)))
theorem Inv.flst {pins : List (Addr × Obj)} {σ : L2.St} {H : Hp} {s : Shared} {l : Addr} {xs : List V} (I : Inv X pins σ H s) (h : FzL X.K H l xs) :
    xs.length ≤ sizeLine ∧ ∃ (its : List Value) (n : Nat), Vals xs its ∧ xs.length = its.length ∧ s.heap.get? l = some { cls := .type "list", data := .seq its.toArray n } := by
  rcases h with ⟨o, h⟩ | ⟨its, n, h1, h2, h3⟩
  · obtain ⟨e, z, its, n, r, e2⟩ := I.hok l _ h
    exact ⟨z, its, n, r, r.length, e2⟩
  · exact ⟨by rw [h3.length]; exact h2, its, n, h3, h3.length, I.kIn _ _ h1⟩
theorem op_catF : OpR X (binaryOp .Add) (rCatF X.K) := by
  intro pins s σ H x y v u Q I rx ry h
  obtain ⟨l, b, xs, zs, rfl, rfl, hH, hB, hz, q⟩ := h
  cases rx
  cases ry
  obtain ⟨z, its, n, r, hl, e⟩ := Inv.flst I hH
  obtain ⟨z2, its2, n2, r2, hl2, e2⟩ := Inv.flst I hB
  refine PySem.P.add_list e e2 ?_ (by rw [List.size_toArray, List.size_toArray]; omega)
  have ea : its.toArray ++ its2.toArray = (its ++ its2).toArray := by simp
  rw [ea]
  exact ⟨.ref _, _, I.lnew (t' := s.toks) (r.append r2) (by rw [List.length_append]; omega), rfl, q _ I.fresh⟩
theorem o_ladd : Op2 X (binaryOp .Add) lAdd := ⟨_, op_catF, fun x y dx dy dz H Q i1 i2 h q => by
  unfold lAdd at h
  split at h
  · split at h
    · rename_i hc
      cases h
      obtain ⟨a, xs, rfl, s1, q1⟩ := i1.ofLst
      obtain ⟨b, ys, rfl, s2, q2⟩ := i2.ofLst
      exact ⟨a, b, xs, ys, rfl, rfl, s1, s2, by rw [q1.len, q2.len]; exact Nat.le_trans hc most_line, fun p hp => q.lst hp (q1.append q2)⟩
    · cases h
  · cases h⟩
def dAdd : D → D → Option D := orE iAdd (orE tAdd (orE lAdd sAdd))
theorem o_add : Op2 X (binaryOp .Add) dAdd := o_iadd.or (o_tadd.or (o_ladd.or o_sadd))
def rRepF (K : PySem.W.Frag) : R2 := fun x y H Q => ∃ l k xs, x = .ref l ∧ y = .int k ∧ FzL K H l xs ∧ -(2 ^ 63) ≤ k ∧ k < 2 ^ 63 ∧ xs.length * k.toNat ≤ sizeLine ∧
  ∀ p, H p = none → Q (.ref p) (upd H p (.lst (List.replicate k.toNat xs).flatten))
theorem op_repF : OpR X (binaryOp .Mult) (rRepF X.K) := by
  intro pins s σ H x y v u Q I rx ry h
  obtain ⟨l, k, xs, rfl, rfl, hH, h1, h2, hz, q⟩ := h
  cases rx
  obtain ⟨t, rfl⟩ := ry
  obtain ⟨z, its, n, r, hl, e⟩ := Inv.flst I hH
  have hlen : its.toArray.size * k.toNat ≤ sizeLine := by rw [List.size_toArray, ← hl]; exact hz
  have hcap : ¬ its.toArray.size * k.toNat > (2 ^ 63 - 1) / 8 := by
    have : (sizeLine : Nat) ≤ (2 ^ 63 - 1) / 8 := by decide
    omega
  have hfit : ¬ (!Builtin.List.listFitsIndex k) = true := by
    rw [fitsIndex_both h1 h2]
    exact Bool.false_ne_true
  have hlong : ¬ Builtin.List.listTooLong (its.toArray.size * k.toNat) = true := by
    rw [notLongL hlen]
    exact Bool.false_ne_true
  have hnew : List.foldl (fun x1 x2 => x1 ++ x2) #[] (List.replicate (if its.toArray.isEmpty = true then 0 else k.toNat) its.toArray) = (List.replicate k.toNat its).flatten.toArray := by
    have f0 : ∀ m : Nat, List.foldl (fun x1 x2 => x1 ++ x2) #[] (List.replicate m its.toArray) = (List.replicate m its).flatten.toArray := fun m => by
      have := foldl_rep its m []
      rw [List.nil_append] at this
      exact this
    rw [f0]
    cases its with
    | nil => simp
    | cons a r' => rw [if_neg (by simp)]
  refine wpAny_binaryOp_repeat_ref (T := "list") (U := "int") (by decide) ⟨_, e, rfl⟩ (fun s' => typeIs_int s' k t) noFill_list_mul F.fills_int_mul F.slot_int_rmul repeat_list F.slot_int_index.lookup
    (call_meets F.slot_int_rmul (typeIs_int s k t) F.entry_int_rmul (F.args_int_rmul_2 _ _) (int___rmul___int_list k t l its.toArray n)
      ⟨e, rfl, ⟨_, e, rfl⟩, call_meets F.slot_list_mul ⟨_, e, rfl⟩ F.entry_list_mul (F.args_list_mul_2 _ _) (AutoListH.list___mul___list_int_3 l its.toArray n k t hfit hcap hlong) ⟨e, ?_⟩⟩)
  rw [hnew]
  exact ⟨.ref _, _, I.lnew (t' := s.toks) (r.rep k.toNat) (by rw [PyProof.Rows.lm_len_rep_flat, Nat.mul_comm]; exact hz), rfl, q _ I.fresh⟩
def lMul : D → D → Option D
  | .list xs, .int k => if k.natAbs ≤ 1000 ∧ xs.length ≤ 1000 then some (.list (List.replicate k.toNat xs).flatten) else none
  | _, _ => none
theorem mul1000 {n k : Nat} (h : n ≤ 1000) (h2 : k ≤ 1000) : n * k ≤ sizeLine := Nat.le_trans (Nat.mul_le_mul h h2) (by rw [sizeLine_eq]; decide)
theorem o_lmul : Op2 X (binaryOp .Mult) lMul := ⟨_, op_repF, fun x y dx dy dz H Q i1 i2 h q => by
  unfold lMul at h
  split at h
  · split at h
    · rename_i hc
      cases h
      obtain ⟨a, xs, rfl, s1, q1⟩ := i1.ofLst
      exact ⟨a, _, xs, rfl, i2.ofInt, s1, by omega, by omega, by rw [q1.len]; exact mul1000 hc.2 (by omega), fun p hp => q.lst hp (q1.flat _)⟩
    · cases h
  · cases h⟩
theorem tuple_mul1 (l : Addr) (items : Array Value) (n : Nat) (dd : Option Addr) (sl : Array (Option Value)) (u : Tok)  :
    Meets (Builtin.«tuple.__mul__» ⟨[.ref l, .int 1 u], []⟩) (fun _ R s => s.heap.get? l = some { cls := .type "tuple", dict := dd, data := .seq items n, slots := sl } ∧ R (.ok (.ret (Value.ref l))) s) :=
  .of_wp fun prog w A R s h => by
    obtain ⟨hp, g, d, tk, os⟩ := s
    obtain ⟨hl, h⟩ := h
    have f1 := AutoSeq1.idx_int
    wp_walk using wpAny_loadPart' hl
    exact ⟨_, rfl, h⟩
theorem tuple_mul0 (l : Addr) (items : Array Value) (n : Nat) (dd : Option Addr) (sl : Array (Option Value)) (x : Int) (u : Tok) (c0 : (decide (x < -(2 ^ 63)) || decide (x ≥ 2 ^ 63)) = false) (c1 : (items.isEmpty || x == 1) = false) (c2 : (decide (x ≤ 0) || items.isEmpty) = true) :
    Meets (Builtin.«tuple.__mul__» ⟨[.ref l, .int x u], []⟩) (fun _ R s => s.heap.get? l = some { cls := .type "tuple", dict := dd, data := .seq items n, slots := sl } ∧
      R (.ok (.ret (Value.ref s.heap.objs.size))) { s with heap := s.heap.push { cls := Value.type "tuple", data := Data.seq #[] }, toks := s.toks }) :=
  .of_wp fun prog w A R s h => by
    obtain ⟨hp, g, d, tk, os⟩ := s
    obtain ⟨hl, h⟩ := h
    have f1 := AutoSeq1.idx_int
    wp_walk using wpAny_loadPart' hl
    repeat (first
      | (refine wpAny_ite_false (decide_eq_false (by rw [c0]; exact Bool.false_ne_true)) ?_; wp_walk using wpAny_loadPart' hl)
      | (refine wpAny_ite_false (decide_eq_false (by rw [c1]; exact Bool.false_ne_true)) ?_; wp_walk using wpAny_loadPart' hl)
      | (refine wpAny_ite_true (decide_eq_true c2) ?_; wp_walk using wpAny_loadPart' hl))
    exact ⟨_, rfl, h⟩
/-- a tuple times a number below 2 -/
def rRepS (K : PySem.W.Frag) : R2 := fun x y H Q => ∃ l k xs, x = .ref l ∧ y = .int k ∧ SqT K H l xs ∧ xs ≠ [] ∧ -1000 ≤ k ∧ ((k = 1 ∧ Q (.ref l) H) ∨ (k ≤ 0 ∧ ∀ p, H p = none → Q (.ref p) (upd H p (.tup []))))
theorem op_repS : OpR X (binaryOp .Mult) (rRepS X.K) := by
  intro pins s σ H x y v u Q I rx ry h
  obtain ⟨l, k, xs, rfl, rfl, hT, hne, h1, q⟩ := h
  cases rx
  obtain ⟨t, rfl⟩ := ry
  obtain ⟨its, r, ⟨⟨cls, dd, data, sl⟩, ho, hc, n, hd⟩, hs⟩ := I.tuple hT
  simp only at hc hd
  subst hc hd
  have hn : its ≠ [] := fun e => hne (by
    have := r.length
    rw [e] at this
    exact List.eq_nil_of_length_eq_zero this)
  have hi : its.toArray.isEmpty = false := by
    cases its with
    | nil => exact absurd rfl hn
    | cons a b => rfl
  rcases q with ⟨rfl, q⟩ | ⟨hk, q⟩
  · refine wpAny_binaryOp_repeat_ref (T := "tuple") (U := "int") (by decide) ⟨_, ho, rfl⟩ (fun s' => typeIs_int s' 1 t) noFill_tuple_mul F.fills_int_mul F.slot_int_rmul repeat_tuple F.slot_int_index.lookup
      (call_meets F.slot_int_rmul (typeIs_int s 1 t) F.entry_int_rmul (F.args_int_rmul_2 _ _) (int_rmul_tuple 1 t l its.toArray n dd sl)
        ⟨ho, rfl, ⟨_, ho, rfl⟩, call_meets F.slot_tuple_mul ⟨_, ho, rfl⟩ F.entry_tuple_mul (F.args_tuple_mul_2 _ _) (tuple_mul1 l its.toArray n dd sl t) ⟨ho, ?_⟩⟩)
    exact ⟨.ref l, H, I, rfl, q⟩
  · refine wpAny_binaryOp_repeat_ref (T := "tuple") (U := "int") (by decide) ⟨_, ho, rfl⟩ (fun s' => typeIs_int s' k t) noFill_tuple_mul F.fills_int_mul F.slot_int_rmul repeat_tuple F.slot_int_index.lookup
      (call_meets F.slot_int_rmul (typeIs_int s k t) F.entry_int_rmul (F.args_int_rmul_2 _ _) (int_rmul_tuple k t l its.toArray n dd sl)
        ⟨ho, rfl, ⟨_, ho, rfl⟩, call_meets F.slot_tuple_mul ⟨_, ho, rfl⟩ F.entry_tuple_mul (F.args_tuple_mul_2 _ _) (tuple_mul0 l its.toArray n dd sl k t
          (by rw [decide_eq_false (by omega), decide_eq_false (by omega)] <;> rfl) (by rw [hi, Bool.false_or]; exact beq_eq_false_iff_ne.mpr (by omega)) (by rw [decide_eq_true hk]; rfl)) ⟨ho, ?_⟩⟩)
    refine ⟨.ref s.heap.objs.size, _, I.laid (t' := s.toks) (o := .tup []) (fun b ob q => Heap.get?_push_of_some _ q) (Nat.le_refl _) ?_, rfl, q _ (I.hok.fresh (Nat.le_refl _))⟩
    exact ⟨Nat.zero_le _, [], .nil, IsTup.new _ _⟩
def tMul : D → D → Option D
  | .tuple xs, .int k => if k.natAbs ≤ 1000 ∧ xs.length ≤ 1000 ∧ xs.length ≠ 0 then some (.tuple (List.replicate k.toNat xs).flatten) else none
  | _, _ => none
theorem o_tmul : Op2 X (binaryOp .Mult) tMul := ⟨_, op_repT.or op_repS, fun x y dx dy dz H Q i1 i2 h q => by
  unfold tMul at h
  split at h
  · rename_i ds k
    split at h
    · rename_i hc
      cases h
      obtain ⟨a, xs, rfl, s1, q1⟩ := i1.ofTup
      have hne : xs ≠ [] := fun z => hc.2.2 (by rw [← q1.len, z]; rfl)
      by_cases hk : 2 ≤ k
      · exact .inl ⟨a, k, xs, rfl, i2.ofInt, s1, hne, hk, by omega, by rw [q1.len]; exact hc.2.1, fun p hp => q.tup hp (q1.flat _)⟩
      · refine .inr ⟨a, k, xs, rfl, i2.ofInt, s1, hne, by omega, ?_⟩
        by_cases h1 : k = 1
        · subst h1
          refine .inl ⟨rfl, q.same (.tup s1 ?_)⟩
          have : (List.replicate (1 : Int).toNat ds).flatten = ds := by
            show (List.replicate 1 ds).flatten = ds
            simp
          rw [this]
          exact q1
        · refine .inr ⟨by omega, fun p hp => ?_⟩
          have h0 : k.toNat = 0 := by omega
          rw [h0] at q
          exact q.tup hp .nil
    · cases h
  · cases h⟩
def dMul : D → D → Option D := orE iMul (orE lMul tMul)
theorem o_mul : Op2 X (binaryOp .Mult) dMul := o_imul.or (o_lmul.or o_tmul)

/-! ### equal, in -/
def okEq (d e : D) : Bool := d.canLay0 && e.canLay0 && decide (min d.depth e.depth ≤ 64)
def dEq : D → D → Option D := fun x y => if okEq x y then some (.bool (PyData.eqv x y)) else none
def dNe : D → D → Option D := fun x y => if okEq x y then some (.bool (!PyData.eqv x y)) else none
theorem okEq_of {d e : D} (h : okEq d e = true) : d.canLay0 = true ∧ e.canLay0 = true ∧ min d.depth e.depth ≤ 64 := by
  unfold okEq at h
  simp only [Bool.and_eq_true, decide_eq_true_eq] at h
  exact ⟨h.1.1, h.1.2, h.2⟩
def rEqM (K : PySem.W.Frag) (neg : Bool) : R2 := fun x y H Q => ∃ d e, Dp K H x d ∧ Dp K H y e ∧ okEq d e = true ∧ Q (.bl (if neg then !PyData.eqv d e else PyData.eqv d e)) H
theorem op_eqM (hu : X.A.units + 64 < cLine) : OpR X (compareOp .Eq) (rEqM X.K false) := by
  intro pins s σ H x y v u Q I rx ry h
  obtain ⟨d, e, hd, he, ok, q⟩ := h
  obtain ⟨as, r1⟩ := Dp.reads I d x v hd rx
  obtain ⟨bs, r2⟩ := Dp.reads I e y u he ry
  obtain ⟨o1, o2, o3⟩ := okEq_of ok
  exact SeqAt.compareEq_reads r1 r2 o1 o2 (by omega) ⟨.bl _, H, I, rfl, q⟩
theorem op_neM (hu : X.A.units + 64 < cLine) : OpR X (compareOp .NotEq) (rEqM X.K true) := by
  intro pins s σ H x y v u Q I rx ry h
  obtain ⟨d, e, hd, he, ok, q⟩ := h
  obtain ⟨as, r1⟩ := Dp.reads I d x v hd rx
  obtain ⟨bs, r2⟩ := Dp.reads I e y u he ry
  obtain ⟨o1, o2, o3⟩ := okEq_of ok
  exact SeqAt.compareNe_reads r1 r2 o1 o2 (by omega) ⟨.bl _, H, I, rfl, q⟩
theorem o_eq {k : Nat} (hr : Room k X.A) : Op2 X (compareOp .Eq) dEq := ⟨_, op_eqM hr.units, fun x y dx dy dz H Q i1 i2 h q => by
  unfold dEq at h
  split at h
  · rename_i ok
    cases h
    exact ⟨dx, dy, Im.dp _ _ i1, Im.dp _ _ i2, ok, q.bl⟩
  · cases h⟩
theorem o_ne {k : Nat} (hr : Room k X.A) : Op2 X (compareOp .NotEq) dNe := ⟨_, op_neM hr.units, fun x y dx dy dz H Q i1 i2 h q => by
  unfold dNe at h
  split at h
  · rename_i ok
    cases h
    exact ⟨dx, dy, Im.dp _ _ i1, Im.dp _ _ i2, ok, q.bl⟩
  · cases h⟩
def flatD : D → Bool
  | .none | .bool _ | .int _ | .str _ => true
  | _ => false
theorem im_flat {K : PySem.W.Frag} {H : Hp} {v : V} {d : D} (h : Im K H v d) (f : flatD d = true) : flatV v = true := by
  cases h <;> first | rfl | cases f
theorem im_flats {K : PySem.W.Frag} {H : Hp} : ∀ {vs : List V} {ds : List D}, ImAll K H vs ds → ds.all flatD = true → vs.all flatV = true
  | _, _, .nil, _ => rfl
  | _, _, .cons h1 h2, f => by
    rw [List.all_cons, Bool.and_eq_true] at f
    rw [List.all_cons, im_flat h1 f.1, im_flats h2 f.2]
    rfl
theorem eqV_eqv {K : PySem.W.Frag} {H : Hp} {v w : V} {d e : D} (h1 : Im K H v d) (h2 : Im K H w e) (f1 : flatD d = true) (f2 : flatD e = true) : eqV v w = PyData.eqv d e := by
  cases h1 with
  | lst _ _ => exact absurd f1 (by simp [flatD])
  | tup _ _ => exact absurd f1 (by simp [flatD])
  | _ =>
    cases h2 with
    | lst _ _ => exact absurd f2 (by simp [flatD])
    | tup _ _ => exact absurd f2 (by simp [flatD])
    | _ => simp [eqV, PyData.eqv]
theorem inV_eqv {K : PySem.W.Frag} {H : Hp} {v : V} {d : D} (h : Im K H v d) (f : flatD d = true) : ∀ {vs : List V} {ds : List D}, ImAll K H vs ds → ds.all flatD = true → inV v vs = ds.any fun z => PyData.eqv z d
  | _, _, .nil, _ => rfl
  | _, _, .cons h1 h2, g => by
    rw [List.all_cons, Bool.and_eq_true] at g
    have := inV_eqv h f h2 g.2
    unfold inV at this ⊢
    rw [List.any_cons, List.any_cons, this, eqV_eqv h1 h g.1 f]
def fIn (neg : Bool) : D → D → Option D
  | x, .list ds => if flatD x && ds.all flatD then some (.bool (neg ^^ (ds.any fun z => PyData.eqv z x))) else none
  | x, .tuple ds => if flatD x && ds.all flatD then some (.bool (neg ^^ (ds.any fun z => PyData.eqv z x))) else none
  | _, _ => none
def lIn (neg : Bool) : D → D → Option D
  | x, .list ds => if SeqAt.shaped x && SeqAt.shaped (.list ds) then some (.bool (neg ^^ (ds.any fun z => PyData.eqv z x))) else none
  | _, _ => none
def sIn (neg : Bool) : D → D → Option D
  | .str i, .str j => some (.bool (neg ^^ !(Builtin.Str.occurrences j i 0 j.length 1).isEmpty))
  | _, _ => none
theorem o_fin : Op2 X (compareOp .In) (fIn false) := ⟨_, op_in_seq, fun x y dx dy dz H Q i1 i2 h q => by
  unfold fIn at h
  split at h
  · split at h
    · rename_i ds hc
      cases h
      rw [Bool.and_eq_true] at hc
      obtain ⟨a, xs, rfl, s1, q1⟩ := i2.ofLst
      refine ⟨a, xs, rfl, .inl s1.sq, im_flat i1 hc.1, im_flats q1 hc.2, ?_⟩
      rw [if_neg Bool.false_ne_true, inV_eqv i1 hc.1 q1 hc.2]
      rw [Bool.false_xor] at q
      exact q.bl
    · cases h
  · split at h
    · rename_i ds hc
      cases h
      rw [Bool.and_eq_true] at hc
      obtain ⟨a, xs, rfl, s1, q1⟩ := i2.ofTup
      refine ⟨a, xs, rfl, .inr s1, im_flat i1 hc.1, im_flats q1 hc.2, ?_⟩
      rw [if_neg Bool.false_ne_true, inV_eqv i1 hc.1 q1 hc.2]
      rw [Bool.false_xor] at q
      exact q.bl
    · cases h
  · cases h⟩
theorem o_fnin : Op2 X (compareOp .NotIn) (fIn true) := ⟨_, op_notIn_seq, fun x y dx dy dz H Q i1 i2 h q => by
  unfold fIn at h
  split at h
  · split at h
    · rename_i ds hc
      cases h
      rw [Bool.and_eq_true] at hc
      obtain ⟨a, xs, rfl, s1, q1⟩ := i2.ofLst
      refine ⟨a, xs, rfl, .inl s1.sq, im_flat i1 hc.1, im_flats q1 hc.2, ?_⟩
      rw [if_pos rfl, inV_eqv i1 hc.1 q1 hc.2]
      rw [Bool.true_xor] at q
      exact q.bl
    · cases h
  · split at h
    · rename_i ds hc
      cases h
      rw [Bool.and_eq_true] at hc
      obtain ⟨a, xs, rfl, s1, q1⟩ := i2.ofTup
      refine ⟨a, xs, rfl, .inr s1, im_flat i1 hc.1, im_flats q1 hc.2, ?_⟩
      rw [if_pos rfl, inV_eqv i1 hc.1 q1 hc.2]
      rw [Bool.true_xor] at q
      exact q.bl
    · cases h
  · cases h⟩
theorem o_lin {k : Nat} (hr : Room k X.A) : Op2 X (compareOp .In) (lIn false) := ⟨_, op_inD (by have := hr.un; omega), fun x y dx dy dz H Q i1 i2 h q => by
  unfold lIn at h
  split at h
  · split at h
    · rename_i ds hc
      cases h
      rw [Bool.and_eq_true] at hc
      rw [Bool.false_xor] at q
      exact ⟨dx, ds, Im.dp _ _ i1, Im.dp _ _ i2, hc.1, hc.2, q.bl⟩
    · cases h
  · cases h⟩
theorem o_lnin {k : Nat} (hr : Room k X.A) : Op2 X (compareOp .NotIn) (lIn true) := ⟨_, op_notInD (by have := hr.un; omega), fun x y dx dy dz H Q i1 i2 h q => by
  unfold lIn at h
  split at h
  · split at h
    · rename_i ds hc
      cases h
      rw [Bool.and_eq_true] at hc
      rw [Bool.true_xor] at q
      exact ⟨dx, ds, Im.dp _ _ i1, Im.dp _ _ i2, hc.1, hc.2, q.bl⟩
    · cases h
  · cases h⟩
theorem o_sin : Op2 X (compareOp .In) (sIn false) := ⟨_, op_in_str, fun x y dx dy dz H Q i1 i2 h q => by
  unfold sIn at h
  split at h
  · cases h
    rw [Bool.false_xor] at q
    exact ⟨_, _, i1.ofStr, i2.ofStr, q.bl⟩
  · cases h⟩
theorem o_snin : Op2 X (compareOp .NotIn) (sIn true) := ⟨_, op_notin_str, fun x y dx dy dz H Q i1 i2 h q => by
  unfold sIn at h
  split at h
  · cases h
    rw [Bool.true_xor] at q
    exact ⟨_, _, i1.ofStr, i2.ofStr, q.bl⟩
  · cases h⟩
def dIn (neg : Bool) : D → D → Option D := orE (fIn neg) (orE (lIn neg) (sIn neg))
theorem o_in {k : Nat} (hr : Room k X.A) : Op2 X (compareOp .In) (dIn false) := o_fin.or ((o_lin hr).or o_sin)
theorem o_nin {k : Nat} (hr : Room k X.A) : Op2 X (compareOp .NotIn) (dIn true) := o_fnin.or ((o_lnin hr).or o_snin)
/-! ### is None -/
def dIsN (neg : Bool) : D → D → Option D
  | .none, .none => some (.bool (!neg))
  | _, .none => some (.bool neg)
  | _, _ => none
theorem im_non {K : PySem.W.Frag} {H : Hp} {v : V} {d : D} (h : Im K H v d) (hd : d ≠ .none) : v ≠ .non := by
  cases h with
  | non => exact absurd rfl hd
  | _ => intro z; cases z
theorem o_isn : Op2 X (compareOp .Is) (dIsN false) := ⟨_, op_isN, fun x y dx dy dz H Q i1 i2 h q => by
  unfold dIsN at h
  split at h
  · cases h
    refine ⟨i2.ofNone, ?_⟩
    rw [i1.ofNone]
    exact q.bl
  · rename_i hd
    cases h
    refine ⟨i2.ofNone, ?_⟩
    rw [decide_eq_false (im_non i1 hd)]
    exact q.bl
  · cases h⟩
theorem o_isnn : Op2 X (compareOp .IsNot) (dIsN true) := ⟨_, op_notN, fun x y dx dy dz H Q i1 i2 h q => by
  unfold dIsN at h
  split at h
  · cases h
    refine ⟨i2.ofNone, ?_⟩
    rw [i1.ofNone]
    exact q.bl
  · rename_i hd
    cases h
    refine ⟨i2.ofNone, ?_⟩
    rw [decide_eq_false (im_non i1 hd)]
    exact q.bl
  · cases h⟩
end
end VS

namespace VS
open PySem PySem.Spec PyProof.Rows L2

/-! ### isinstance -/
inductive Ty5 where
  | int | bool | tup | lst | str
def Ty5.name : Ty5 → String
  | .int => "int"
  | .bool => "bool"
  | .tup => "tuple"
  | .lst => "list"
  | .str => "str"
def Ty5.is : Ty5 → D → Bool
  | .int, .int _ => true
  | .int, .bool _ => true
  | .bool, .bool _ => true
  | .tup, .tuple _ => true
  | .lst, .list _ => true
  | .str, .str _ => true
  | _, _ => false
def tyName : D → String
  | .none => "NoneType"
  | .bool _ => "bool"
  | .int _ => "int"
  | .str _ => "str"
  | .list _ => "list"
  | .tuple _ => "tuple"
  | .dict _ => "dict"
theorem kit_is (t : Ty5) (d : D) : kitB (tyName d) t.name = some (t.is d) := by
  cases t <;> cases d <;> (simp only [tyName, Ty5.name, Ty5.is]; decide +kernel)
theorem boot_ty (t : Ty5) : bootBuiltins (Str.ofString t.name) = some (.type t.name) := by
  cases t
  · exact boot_int
  · exact boot_bool
  · exact boot_tuple
  · exact boot_list
  · exact boot_str
theorem im_ty {K : PySem.W.Frag} {H : Hp} {v : V} {d : D} (h : Im K H v d) : TyX K H v (.type (tyName d)) := by
  cases h with
  | non => exact .base .non
  | bl b => exact .base (.bl b)
  | int i => exact .base (.int i)
  | str x => exact .base (.str x)
  | lst h1 h2 =>
    rcases h1 with ⟨o, h1⟩ | ⟨its, n, h1, _⟩
    · exact .base (.frz h1)
    · exact .kList h1 rfl
  | tup h1 h2 =>
    rcases h1 with (h1 | ⟨o, h1⟩) | ⟨o, its, n, h1, h3, _⟩
    · exact .base (.tup h1)
    · exact .fTuple h1
    · exact .kTuple h1 h3
section
variable {X : Cx} {g : Gx} {pos : Pos} {a b c e : Expr} {fa fb fc f : M D} {es : List Expr} {fs : M (List D)}
def dIsi (t : Ty5) : D → Option D := fun d => some (.bool (t.is d))
def dIsi2 (t u : Ty5) : D → Option D := fun d => some (.bool (t.is d || u.is d))
theorem q_isi (t : Ty5) {x : Str} {p p2 : Pos} (ha : QE X g a fa) (hx : x = Str.ofString t.name) (hm : X.mg "isinstance" = none) (hm2 : X.mg x = none) (hg : Gl X "isinstance" := by rfl) (hg2 : Gl X x := by rfl) (hn : x ≠ "__name__" := by decide) (hd : (x == ("__debug__" : Str)) = false := by decide)
    (hs : starEach [a, .Name x p2] X.env = (false, eval a X.env) :: starEach [.Name x p2] X.env := by rfl) (hs2 : starEach [.Name x p2] X.env = (false, eval (.Name x p2) X.env) :: starEach [] X.env := by rfl) (hpl : (backTo pos (starEach [.Name x p2] X.env)).any (·.1) = false := by rfl) :
    QE X g (.Call (.Name "isinstance" p) [a, .Name x p2] [] pos) (e1 (dIsi t) fa) := by
  subst hx
  have hb : PE X (.Name (Str.ofString t.name) p2) (tC (.ty t.name)) := pe_bltn hg2 hm2 (boot_ty t) rfl hn hd
  refine pe_conv (pe_callB call_isi hg hm boot_isinstance (pa_cons ha (pa_cons hb pa_nil hs2) hs) (by decide) (by decide) hs hpl) ?_
  rintro σ H Q ⟨ρ, own, d, ρ', h, R, k⟩
  obtain ⟨x, h1, h2⟩ := e1_some h
  cases h2
  refine ⟨ρ, own, x, ρ', h1, R, fun v ow1 H1 k1 i1 => ⟨v, .ty t.name, _, _, t.is x, rfl, .ty _, im_ty i1, kit_ty (kit_is t x), k _ ow1 H1 k1 (.bl _)⟩⟩
theorem q_isi2 (t u : Ty5) {x y : Str} {p p2 p3 p4 : Pos} {kk} (ha : QE X g a fa) (hx : x = Str.ofString t.name) (hy : y = Str.ofString u.name) (hm : X.mg "isinstance" = none) (hm2 : X.mg x = none) (hm3 : X.mg y = none) (hg : Gl X "isinstance" := by rfl) (hg2 : Gl X x := by rfl) (hg3 : Gl X y := by rfl)
    (hn : x ≠ "__name__" := by decide) (hd : (x == ("__debug__" : Str)) = false := by decide) (hn2 : y ≠ "__name__" := by decide) (hd2 : (y == ("__debug__" : Str)) = false := by decide)
    (hs : starEach [a, .Tuple [.Name x p2, .Name y p3] kk p4] X.env = (false, eval a X.env) :: starEach [.Tuple [.Name x p2, .Name y p3] kk p4] X.env := by rfl)
    (hs2 : starEach [.Tuple [.Name x p2, .Name y p3] kk p4] X.env = (false, eval (.Tuple [.Name x p2, .Name y p3] kk p4) X.env) :: starEach [] X.env := by rfl)
    (hs3 : starEach [.Name x p2, .Name y p3] X.env = (false, eval (.Name x p2) X.env) :: starEach [.Name y p3] X.env := by rfl)
    (hs4 : starEach [.Name y p3] X.env = (false, eval (.Name y p3) X.env) :: starEach [] X.env := by rfl)
    (hpl : (backTo pos (starEach [.Tuple [.Name x p2, .Name y p3] kk p4] X.env)).any (·.1) = false := by rfl) :
    QE X g (.Call (.Name "isinstance" p) [a, .Tuple [.Name x p2, .Name y p3] kk p4] [] pos) (e1 (dIsi2 t u) fa) := by
  subst hx hy
  have hb : PE X (.Name (Str.ofString t.name) p2) (tC (.ty t.name)) := pe_bltn hg2 hm2 (boot_ty t) rfl hn hd
  have hc : PE X (.Name (Str.ofString u.name) p3) (tC (.ty u.name)) := pe_bltn hg3 hm3 (boot_ty u) rfl hn2 hd2
  refine pe_conv (pe_callB call_isiT hg hm boot_isinstance (pa_cons ha (pa_cons (pe_tup (pa_cons hb (pa_cons hc pa_nil hs4) hs3)) pa_nil hs2) hs) (by decide) (by decide) hs hpl) ?_
  rintro σ H Q ⟨ρ, own, d, ρ', h, R, k⟩
  obtain ⟨x, h1, h2⟩ := e1_some h
  cases h2
  refine ⟨ρ, own, x, ρ', h1, R, fun v ow1 H1 k1 i1 => ⟨by show 2 ≤ sizeLine; decide, fun q hq => ?_⟩⟩
  refine ⟨v, q, [.ty t.name, .ty u.name], _, [.type t.name, .type u.name], t.is x || u.is x, rfl, upd_same, .cons (.ty _) (.cons (.ty _) .nil), im_ty (i1.up (.new hq)), ?_, k _ ow1 _ (k1.trans (k1.rel.goNew hq)) (.bl _)⟩
  refine kitAny_cons (kit_ty (kit_is t x)) (fun e => ?_) (fun e => by rw [e]; rfl)
  rw [e, Bool.false_or]
  exact kitAny_cons (kit_ty (kit_is u x)) (fun e => by rw [e]; exact kitAny_nil) (fun e => e)

/-! ### calls -/
def fLenS : List D → Option D
  | [.list ds] => some (.int ds.length)
  | [.tuple ds] => some (.int ds.length)
  | _ => none
def fLenT : List D → Option D
  | [.str x] => if x.length ≤ most then some (.int x.length) else none
  | _ => none
theorem f_lenS : Fn1 X (.builtin "len") fLenS := ⟨_, call_len_seq, fun vs ds dz H Q i1 h q => by
  unfold fLenS at h
  split at h
  · cases h
    cases i1 with
    | cons i1 i2 =>
      cases i2
      obtain ⟨a, xs, rfl, s1, q1⟩ := i1.ofLst
      exact ⟨a, xs, rfl, .inl s1.sq, by rw [q1.len]; exact q.int⟩
  · cases h
    cases i1 with
    | cons i1 i2 =>
      cases i2
      obtain ⟨a, xs, rfl, s1, q1⟩ := i1.ofTup
      exact ⟨a, xs, rfl, .inr s1, by rw [q1.len]; exact q.int⟩
  · cases h⟩
theorem f_lenT : Fn1 X (.builtin "len") fLenT := ⟨_, call_len_str, fun vs ds dz H Q i1 h q => by
  unfold fLenT at h
  split at h
  · split at h
    · rename_i hc
      cases h
      cases i1 with
      | cons i1 i2 =>
        cases i2
        exact ⟨_, by rw [i1.ofStr], Nat.le_trans hc most_line, q.int⟩
    · cases h
  · cases h⟩
def fLen : List D → Option D := orL fLenS fLenT
theorem f_len : Fn1 X (.builtin "len") fLen := f_lenS.or f_lenT
def fInt : List D → Option D
  | [.int i] => some (.int i)
  | [.bool b] => some (.int (if b then 1 else 0))
  | _ => none
theorem f_int : Fn1 X (.type "int") fInt := ⟨_, call_int1, fun vs ds dz H Q i1 h q => by
  unfold fInt at h
  split at h
  · cases h
    cases i1 with
    | cons i1 i2 =>
      cases i2
      exact .inl ⟨_, by rw [i1.ofInt], q.int⟩
  · cases h
    cases i1 with
    | cons i1 i2 =>
      cases i2
      exact .inr ⟨_, by rw [i1.ofBool], q.int⟩
  · cases h⟩
def fAbs : List D → Option D
  | [.int i] => some (.int (if i < 0 then -i else i))
  | _ => none
theorem f_abs : Fn1 X (.builtin "abs") fAbs := ⟨_, call_abs, fun vs ds dz H Q i1 h q => by
  unfold fAbs at h
  split at h
  · cases h
    cases i1 with
    | cons i1 i2 =>
      cases i2
      exact ⟨_, by rw [i1.ofInt], q.int⟩
  · cases h⟩
def fMax2 : List D → Option D
  | [.int i, .int j] => some (.int (if j > i then j else i))
  | _ => none
def fMin2 : List D → Option D
  | [.int i, .int j] => some (.int (if j < i then j else i))
  | _ => none
theorem f_max2 (hc : X.calm = true := by rfl) : Fn1 X (.builtin "max") fMax2 := ⟨_, call_max2 hc, fun vs ds dz H Q i1 h q => by
  unfold fMax2 at h
  split at h
  · cases h
    cases i1 with
    | cons i1 i2 =>
      cases i2 with
      | cons i2 i3 =>
        cases i3
        exact ⟨_, _, by rw [i1.ofInt, i2.ofInt], q.int⟩
  · cases h⟩
theorem f_min2 (hc : X.calm = true := by rfl) : Fn1 X (.builtin "min") fMin2 := ⟨_, call_min2 hc, fun vs ds dz H Q i1 h q => by
  unfold fMin2 at h
  split at h
  · cases h
    cases i1 with
    | cons i1 i2 =>
      cases i2 with
      | cons i2 i3 =>
        cases i3
        exact ⟨_, _, by rw [i1.ofInt, i2.ofInt], q.int⟩
  · cases h⟩
def boolsD : List D → Option (List Bool)
  | [] => some []
  | .bool b :: r => (match boolsD r with | some bs => some (b :: bs) | none => none)
  | _ => none
theorem bools_of : ∀ {ds : List D} {bs : List Bool}, boolsD ds = some bs → ds = bs.map .bool
  | [], bs, h => by cases h; rfl
  | .bool b :: r, bs, h => by
    unfold boolsD at h
    split at h
    · rename_i bs' h'
      cases h
      rw [bools_of h']
      rfl
    · cases h
  | .none :: _, _, h => by cases h
  | .int _ :: _, _, h => by cases h
  | .str _ :: _, _, h => by cases h
  | .list _ :: _, _, h => by cases h
  | .tuple _ :: _, _, h => by cases h
  | .dict _ :: _, _, h => by cases h
theorem im_bools {K : PySem.W.Frag} {H : Hp} : ∀ {bs : List Bool} {vs : List V}, ImAll K H vs (bs.map .bool) → vs = bs.map V.bl
  | [], _, h => by cases h; rfl
  | b :: bs, _, h => by
    cases h with
    | cons h1 h2 => rw [h1.ofBool, im_bools h2]; rfl
def fAll : List D → Option D
  | [.list ds] => (match boolsD ds with | some bs => some (.bool (bs.all id)) | none => none)
  | _ => none
theorem f_all (hc : X.calm = true := by rfl) : Fn1 X (.builtin "all") fAll := ⟨_, cr_all hc, fun vs ds dz H Q i1 h q => by
  unfold fAll at h
  split at h
  · split at h
    · rename_i bs hb
      cases h
      cases i1 with
      | cons i1 i2 =>
        cases i2
        obtain ⟨a, xs, rfl, s1, q1⟩ := i1.ofLst
        have e := bools_of hb
        subst e
        have e2 := im_bools q1
        subst e2
        exact ⟨a, bs, rfl, s1.sq, q.bl⟩
    · cases h
  · cases h⟩
def fTuple : List D → Option D
  | [.list ds] => some (.tuple ds)
  | [.tuple ds] => some (.tuple ds)
  | _ => none
theorem f_tuple : Fn1 X (.type "tuple") fTuple := ⟨_, call_tuple_of, fun vs ds dz H Q i1 h q => by
  unfold fTuple at h
  split at h
  · cases h
    cases i1 with
    | cons i1 i2 =>
      cases i2
      obtain ⟨a, xs, rfl, s1, q1⟩ := i1.ofLst
      exact ⟨a, xs, rfl, .inl ⟨s1.sq, fun l hl => q.tup hl q1⟩⟩
  · cases h
    cases i1 with
    | cons i1 i2 =>
      cases i2
      obtain ⟨a, xs, rfl, s1, q1⟩ := i1.ofTup
      exact ⟨a, xs, rfl, .inr ⟨s1, q.same (.tup s1 q1)⟩⟩
  · cases h⟩
def fList : List D → Option D
  | [.list ds] => some (.list ds)
  | [.tuple ds] => some (.list ds)
  | _ => none
theorem f_list : Fn1 X (.type "list") fList := ⟨_, call_list_of, fun vs ds dz H Q i1 h q => by
  unfold fList at h
  split at h
  · cases h
    cases i1 with
    | cons i1 i2 =>
      cases i2
      obtain ⟨a, xs, rfl, s1, q1⟩ := i1.ofLst
      exact ⟨a, xs, rfl, .inl s1.sq, fun l hl => q.lst hl q1⟩
  · cases h
    cases i1 with
    | cons i1 i2 =>
      cases i2
      obtain ⟨a, xs, rfl, s1, q1⟩ := i1.ofTup
      exact ⟨a, xs, rfl, .inr s1, fun l hl => q.lst hl q1⟩
  · cases h⟩
def fStr : List D → Option D
  | [.int i] => if i.natAbs.log2 < 1920 then some (.str (toString i)) else none
  | _ => none
theorem f_str : Fn1 X (.type "str") fStr := ⟨_, call_str_int, fun vs ds dz H Q i1 h q => by
  unfold fStr at h
  split at h
  · split at h
    · rename_i hc
      cases h
      cases i1 with
      | cons i1 i2 =>
        cases i2
        exact ⟨_, by rw [i1.ofInt], hc, q.str⟩
    · cases h
  · cases h⟩
/-! ### places, parts -/
def dIxL : D → D → Option D
  | .list ds, .int i => atI ds i
  | _, _ => none
def dIxT : D → D → Option D
  | .tuple ds, .int i => atI ds i
  | _, _ => none
def dIxS : D → D → Option D
  | .str x, .int i => if x.length ≤ most then (match atI x.cps.toList i with | some c => some (.str ⟨#[c]⟩) | none => none) else none
  | _, _ => none
theorem i_list : Ix2 X dIxL := ⟨_, ix_list, fun x y dx dy dz H Q i1 i2 h q => by
  unfold dIxL at h
  split at h
  · obtain ⟨a, xs, rfl, s1, q1⟩ := i1.ofLst
    obtain ⟨v, v1, v2⟩ := q1.atI h
    exact ⟨a, xs, _, v, rfl, i2.ofInt, s1.sq, v1, q.same v2⟩
  · cases h⟩
theorem i_tup : Ix2 X dIxT := ⟨_, ix_tup, fun x y dx dy dz H Q i1 i2 h q => by
  unfold dIxT at h
  split at h
  · obtain ⟨a, xs, rfl, s1, q1⟩ := i1.ofTup
    obtain ⟨v, v1, v2⟩ := q1.atI h
    exact ⟨a, xs, _, v, rfl, i2.ofInt, s1, v1, q.same v2⟩
  · cases h⟩
theorem i_str : Ix2 X dIxS := ⟨_, ix_str, fun x y dx dy dz H Q i1 i2 h q => by
  unfold dIxS at h
  split at h
  · split at h
    · rename_i hc
      split at h
      · rename_i c hc2
        cases h
        exact ⟨_, _, c, i1.ofStr, i2.ofInt, Nat.le_trans hc most_line, hc2, q.str⟩
      · cases h
    · cases h
  · cases h⟩
def dIx : D → D → Option D := orE dIxT (orE dIxL dIxS)
theorem i_any : Ix2 X dIx := i_tup.or (i_list.or i_str)
/-- parts of a slice -/
abbrev MO := Rho → Option (Option Int × Rho)
def oNone : MO := fun ρ => some (none, ρ)
def oSome (f : M D) : MO := fun ρ => match f ρ with
  | some (.int i, ρ1) => some (some i, ρ1)
  | _ => none
def xO (K : PySem.W.Frag) (g : Gx) (f : MO) : TO := fun σ H Q => ∃ ρ own d ρ', f ρ = some (d, ρ') ∧ RelE K g σ ρ own H ∧ ∀ own' H', Go K g σ own H σ ρ' own' H' → Q d H'
abbrev QO (X : Cx) (g : Gx) (e : Option Expr) (f : MO) : Prop := PO X e (xO X.K g f)
theorem po_conv {e : Option Expr} {t t' : TO} (h : PO X e t) (c : ∀ σ H Q, t' σ H Q → t σ H Q) : PO X e t' := ⟨fun pins s σ H Q I q => h.run pins s σ H Q I (c σ H Q q)⟩
theorem qo_none : QO X g none oNone := by
  refine po_conv po_none ?_
  rintro σ H Q ⟨ρ, own, d, ρ', h, R, k⟩
  cases h
  exact k own H (.refl R)
theorem qo_some (he : QE X g e f) : QO X g (some e) (oSome f) := by
  refine po_conv (po_some he) ?_
  rintro σ H Q ⟨ρ, own, d, ρ', h, R, k⟩
  unfold oSome at h
  split at h
  · rename_i i ρ1 h1
    cases h
    exact ⟨ρ, own, _, ρ', h1, R, fun v ow1 H1 k1 i1 => ⟨i, i1.ofInt, k ow1 H1 k1⟩⟩
  · cases h
def cutD (xs : List D) (lo hi : Option Int) : List D := (xs.drop (HT.sIx xs.length 0 lo)).take (HT.sIx xs.length xs.length hi - HT.sIx xs.length 0 lo)
theorem im_cut {K : PySem.W.Frag} {H : Hp} {vs : List V} {ds : List D} (h : ImAll K H vs ds) (lo hi : Option Int) : ImAll K H (cutV vs lo hi) (cutD ds lo hi) := by
  unfold cutV cutD
  rw [h.len]
  exact (h.drop _).take _
def dSl : D → Option Int → Option Int → Option D
  | .tuple ds, lo, hi => some (.tuple (cutD ds lo hi))
  | .list ds, lo, hi => some (.list (cutD ds lo hi))
  | .str x, lo, hi => if x.length ≤ most then some (.str (cutS x lo hi)) else none
  | _, _, _ => none
def eSl (fa : M D) (lo hi : MO) : M D := fun ρ => match fa ρ with
  | some (x, ρ1) => (match lo ρ1 with
    | some (l, ρ2) => (match hi ρ2 with
      | some (u, ρ3) => (match dSl x l u with | some z => some (z, ρ3) | none => none)
      | none => none)
    | none => none)
  | none => none
theorem q_slice {lo hi : Option Expr} {fl fh : MO} {p2 : Pos} (he : QE X g a fa) (hl : QO X g lo fl) (hh : QO X g hi fh) : QE X g (.Subscript a (.Slice lo hi none p2) pos) (eSl fa fl fh) := by
  refine pe_conv (pe_fz (pe_slice (sl_tupA.or (sl_list.or sl_str)) he hl hh)) ?_
  rintro σ H Q ⟨ρ, own, d, ρ', h, R, k⟩
  unfold eSl at h
  split at h
  · rename_i x ρ1 h1
    split at h
    · rename_i l ρ2 h2
      split at h
      · rename_i u ρ3 h3
        split at h
        · rename_i z hz
          cases h
          refine ⟨ρ, own, x, ρ1, h1, R, fun v ow1 H1 k1 i1 => ⟨ρ1, ow1, l, ρ2, h2, k1.rel, fun ow2 H2 k2 => ⟨ρ2, ow2, u, ρ', h3, k2.rel, fun ow3 H3 k3 => ?_⟩⟩⟩
          have q : Out X.K H3 d Q := fun w H' s i => k w ow3 H' (((k1.trans k2).trans k3).trans (k3.rel.goSame s)) i
          have i3 := k3.im (k2.im i1)
          cases i3 with
          | tup s1 q1 =>
            cases hz
            refine .inl ⟨_, _, rfl, s1, fun hw => q.same (.tup s1 ?_), fun _ p hp => q.tup hp (im_cut q1 _ _)⟩
            unfold cutD
            rw [← q1.len, hw.1, hw.2, Nat.sub_zero, List.drop_zero]
            rw [q1.len, List.take_length]
            exact q1
          | lst s1 q1 =>
            cases hz
            exact .inr (.inl ⟨_, _, rfl, s1.sq, fun p hp => q.lst hp (im_cut q1 _ _)⟩)
          | str x =>
            have hz : (if x.length ≤ most then some (PyData.str (cutS x l u)) else none) = some d := hz
            split at hz
            · rename_i hc
              cases hz
              exact .inr (.inr ⟨_, rfl, Nat.le_trans hc most_line, q.str⟩)
            · cases hz
          | _ => cases hz
        · cases h
      · cases h
    · cases h
  · cases h
/-! ### -x, chains -/
def dNeg : D → Option D
  | .int i => some (.int (-i))
  | _ => none
theorem u_neg : Un1 X (unaryOp .USub) dNeg := ⟨_, un_neg, fun x dx dz H Q i1 h q => by
  unfold dNeg at h
  split at h
  · cases h
    exact ⟨_, i1.ofInt, q.int⟩
  · cases h⟩
def eChain (p p' : D → D → Option D) (fa fb fc : M D) : M D := fun ρ => match fa ρ with
  | none => none
  | some (x, ρ1) => match fb ρ1 with
    | none => none
    | some (y, ρ2) => match p x y with
      | some (.bool true) => (match fc ρ2 with
        | some (z, ρ3) => (match p' y z with | some r => some (r, ρ3) | none => none)
        | none => none)
      | some (.bool false) => some (.bool false, ρ2)
      | _ => none
theorem chain_of {K : PySem.W.Frag} {p p' : D → D → Option D} {r r' : R2} (hr : ∀ x y dx dy dz H Q, Im K H x dx → Im K H y dy → p dx dy = some dz → Out K H dz Q → r x y H fun v H' => Fin v H' Q)
    (hr' : ∀ x y dx dy dz H Q, Im K H x dx → Im K H y dy → p' dx dy = some dz → Out K H dz Q → r' x y H fun v H' => Fin v H' Q) :
    ∀ σ H Q, xE K g (eChain p p' fa fb fc) σ H Q → tChain (fun x y H Q => r x y H fun v H' => Fin v H' Q) (fun x y H Q => r' x y H fun v H' => Fin v H' Q) (xE K g fa) (xE K g fb) (xE K g fc) σ H Q := by
  rintro σ H Q ⟨ρ, own, d, ρ', h, R, k⟩
  unfold eChain at h
  split at h
  · cases h
  rename_i x ρ1 h1
  split at h
  · cases h
  rename_i y ρ2 h2
  refine ⟨ρ, own, x, ρ1, h1, R, fun v ow1 H1 k1 i1 => ⟨ρ1, ow1, y, ρ2, h2, k1.rel, fun w ow2 H2 k2 i2 => ?_⟩⟩
  split at h
  · rename_i hp
    split at h
    · rename_i z ρ3 h3
      split at h
      · rename_i rr hq
        cases h
        refine hr v w x y _ H2 _ (k2.im i1) i2 hp fun b H3 s ib => ⟨true, ib.ofBool, iteT ?_⟩
        have k3 := k2.rel.goSame s
        refine ⟨ρ2, ow2, z, ρ', h3, k3.rel, fun u ow4 H4 k4 i4 => ?_⟩
        exact hr' w u y z d H4 Q (k4.im (k3.im i2)) i4 hq fun t H5 s5 i5 => k t ow4 H5 ((((k1.trans k2).trans k3).trans k4).trans (k4.rel.goSame s5)) i5
      · cases h
    · cases h
  · rename_i hp
    cases h
    refine hr v w x y _ H2 _ (k2.im i1) i2 hp fun b H3 s ib => ⟨false, ib.ofBool, iteF ?_⟩
    exact k _ ow2 H3 ((k1.trans k2).trans (k2.rel.goSame s)) (.bl false)
  · cases h
theorem OpR.fin {op : Value → Value → Sem Value} {r : R2} (h : OpR X op r) : OpR X op (fun x y H Q => r x y H fun v H' => Fin v H' Q) := fun pins s σ H x y v u Q I r1 r2 q => thn (h pins s σ H x y v u _ I r1 r2 q) fun _ _ q => ep_fin q
theorem q_chain {op op' : CmpOp} {p p' : D → D → Option D} (ho : Op2 X (compareOp op) p) (ho' : Op2 X (compareOp op') p') (ha : QE X g a fa) (hb : QE X g b fb) (hc : QE X g c fc)
    (hm : lastMarks [op, op'] [b, c] = false := by with_unfolding_all rfl) : QE X g (.Compare a [op, op'] [b, c] pos) (eChain p p' fa fb fc) := by
  obtain ⟨r, h1, h2⟩ := ho
  obtain ⟨r', h1', h2'⟩ := ho'
  exact pe_conv (pe_chain (OpR.fin h1) (OpR.fin h1') ha hb hc hm) (chain_of h2 h2')
theorem qt_chain {op op' : CmpOp} {p p' : D → D → Option D} (ho : Op2 X (compareOp op) p) (ho' : Op2 X (compareOp op') p') (ha : QE X g a fa) (hb : QE X g b fb) (hc : QE X g c fc)
    (hm : lastMarks [op, op'] [b, c] = false := by with_unfolding_all rfl) : QT X g (.Compare a [op, op'] [b, c] pos) (e1 asB (eChain p p' fa fb fc)) := by
  obtain ⟨r, h1, h2⟩ := ho
  obtain ⟨r', h1', h2'⟩ := ho'
  refine pt_conv (pt_chain (OpR.fin h1) (OpR.fin h1') ha hb hc hm) ?_
  rintro σ H Q ⟨ρ, own, d, ρ', h, R, k⟩
  obtain ⟨x, h3, h4⟩ := e1_some h
  refine chain_of h2 h2' σ H _ ⟨ρ, own, x, ρ', h3, R, fun v ow1 H1 k1 i1 => ?_⟩
  cases x with
  | bool b =>
    cases h4
    exact ⟨_, i1.ofBool, k ow1 H1 k1⟩
  | _ => cases h4
end
end VS

namespace VS
open PySem PySem.Spec PyProof.Rows L2

/-! ### comprehensions of two clauses -/
def lcIn (u : D → Rho → Option Rho) (e : M D) (vs1 : List Nat) : List D → Rho → Option (List D × Rho)
  | [], ρ => some ([], ρ)
  | d :: r, ρ => match u d ρ with
    | none => none
    | some ρ1 => match e ρ1 with
      | none => none
      | some (y, ρ2) => match lcIn u e vs1 r (wipeR ρ2 vs1) with
        | none => none
        | some (ys, ρ3) => some (y :: ys, ρ3)
def lc2Go (t : D → Rho → Option Rho) (fj : M (List D)) (u : D → Rho → Option Rho) (e : M D) (vs vs1 : List Nat) : List D → Rho → Option (List D × Rho)
  | [], ρ => some ([], ρ)
  | d :: r, ρ => match t d ρ with
    | none => none
    | some ρ1 => match fj ρ1 with
      | none => none
      | some (es, ρ2) => match lcIn u e vs1 es (wipeR ρ2 vs1) with
        | none => none
        | some (ys, ρ3) => match lc2Go t fj u e vs vs1 r (wipeR ρ3 vs) with
          | none => none
          | some (zs, ρ4) => some (ys ++ zs, ρ4)
def eLc2 (it : M (List D)) (t : D → Rho → Option Rho) (fj : M (List D)) (u : D → Rho → Option Rho) (e : M D) (vs vs1 : List Nat) : M D := fun ρ => match it ρ with
  | none => none
  | some (ds, ρ1) => if okW ρ1 vs then (match lc2Go t fj u e vs vs1 ds (wipeR ρ1 vs) with
    | none => none
    | some (ys, ρ2) => if ys.length ≤ most then some (.list ys, restR ρ1 ρ2 vs) else none) else none
section
variable {X : Cx} {g : Gx} {pos : Pos}
theorem lc2_of {K : PySem.W.Frag} {fi fj : M (List D)} {t u : D → Rho → Option Rho} {ts us vs vs1 : List Nat} {e : M D} (hts : ∀ i ∈ ts, i ∈ vs) (hus : ∀ i ∈ us, i ∈ vs1) (h1s : ∀ i ∈ vs1, i ∈ vs) (hok : vs1.all (okSlot g) = true) :
    ∀ σ H Q, xE K g (eLc2 fi t fj u e vs vs1) σ H Q → tFz (tLc2 (xI K g fi) (xG K g t ts) tYes (xI K g fj) (xG K g u us) tYes (xE K g e) vs vs1) σ H Q := by
  rintro σ H Q ⟨ρ, own, d, ρ', h, R, k⟩
  unfold eLc2 at h
  split at h
  · cases h
  rename_i ds ρ1 h1
  split at h
  · rename_i hw
    split at h
    · cases h
    rename_i ys ρ2 h2
    split at h
    · rename_i hz
      cases h
      refine ⟨ρ, own, ds, ρ1, h1, R, fun J ow1 H1 k1 dr p hp => ?_⟩
      have r1 := k1.rel
      have rw1 := r1.wipe vs
      have np1 : ¬ InO ow1 p := r1.notIn hp
      refine ⟨fun i m H2 => m = ds.length - i ∧ i ≤ ds.length ∧ ∃ ρi ow2 acc ads yr, Go K g (L2.wipe σ vs) ow1 H1 (L2.wipe σ vs) ρi ow2 H2 ∧ ¬ InO ow2 p ∧ H2 p = some (.lst acc) ∧ ImAll K H2 acc ads ∧ lc2Go t fj u e vs vs1 (ds.drop i) ρi = some (yr, ρ2) ∧ ads ++ yr = ys,
        ⟨_, rfl, Nat.zero_le _, wipeR ρ1 vs, wipeO ow1 vs, [], [], ys, ⟨.new hp, fun a z => .inl (wipeO_sub z), fun _ _ => rfl, (rw1.goNew hp).rel⟩, fun z => np1 (wipeO_sub z), upd_same, .nil, h2, rfl⟩, ?_⟩
      rintro i m H2 ⟨rfl, hi, ρi, ow2, acc, ads, yr, k2, np, hp2, ia, hg, ey⟩
      obtain ⟨dr1, dr2⟩ := dr H2 k2.kp.imm i
      cases hd : ds[i]? with
      | none =>
        refine .inl ⟨dr2 hd, ?_⟩
        have hl : ds.length ≤ i := List.getElem?_eq_none_iff.mp hd
        rw [List.drop_of_length_le hl] at hg
        cases hg
        rw [List.append_nil] at ey
        subst ey
        refine .inr ⟨p, acc, rfl, hp2, fun o => ?_⟩
        have kw : Kp g.T (B1 p) H2 (upd H2 p (.frz o (.lst acc))) := .write hp2 trivial lst_code
        have rf := k2.rel.off np kw
        have kk : Kp g.T (InO ow1) H1 (upd H2 p (.frz o (.lst acc))) := k2.kp.trans kw fun b z => .inr (by rw [z]; exact hp)
        refine k (.ref p) _ _ ⟨k1.kp.trans kk k1.sub, fun a z => ?_, fun _ _ => rfl, r1.rest hw kk.imm rf⟩ (.lst (.inl ⟨o, upd_same⟩) (ia.up kw.imm))
        rcases k2.sub a (wipeO_sub z) with z | z
        · exact k1.sub a z
        · exact .inr (k1.kp.free z)
      | some d =>
        obtain ⟨go, yl⟩ := dr1 d hd
        have hlt : i < ds.length := (List.getElem?_eq_some_iff.mp hd).1
        rw [drop_get hd, lc2Go] at hg
        cases ht : t d ρi with
        | none => simp only [ht] at hg; cases hg
        | some ρ3 =>
          simp only [ht] at hg
          cases hj : fj ρ3 with
          | none => simp only [hj] at hg; cases hg
          | some q =>
            obtain ⟨es, ρ4⟩ := q
            simp only [hj] at hg
            split at hg
            · cases hg
            rename_i yi ρ5 h5
            split at hg
            · cases hg
            rename_i zr ρ6 h6
            cases hg
            refine .inr ⟨go, fun H' => ∃ ρi ow2 acc ads yr, Go K g (L2.wipe σ vs) ow1 H1 (L2.wipe σ vs) ρi ow2 H' ∧ ¬ InO ow2 p ∧ H' p = some (.lst acc) ∧ ImAll K H' acc ads ∧ lc2Go t fj u e vs vs1 (ds.drop (i + 1)) ρi = some (yr, ρ2) ∧ ads ++ yr = ys,
              fun H' n' => ⟨ds.length - (i + 1), by omega, rfl, by omega, n'⟩, fun x H3 y => ?_⟩
            obtain ⟨sm, im⟩ := yl x H3 y
            have s3 := k2.rel.goSame sm
            refine ⟨d, ρi, ow2, ρ3, ht, im, s3.rel, fun σ4 ow4 H4 k4 so => ?_⟩
            have ew := wipe_same hts so
            refine ⟨ew, ?_⟩
            unfold tYes
            refine iteT ?_
            refine ⟨ρ3, ow4, es, ρ4, hj, k4.rel, fun J1 ow5 H5 k5 dr5 => ?_⟩
            have k35 := (s3.trans k4).trans k5
            -- the inner block's slots
            have inn : ∀ {σ7 : L2.St} {ρ7 : Rho} {ow7 : Own} {H7 : Hp}, Go K g (L2.wipe σ vs) ow2 H2 σ7 ρ7 ow7 H7 → L2.wipe σ7 vs1 = L2.wipe σ4 vs1 → Go K g (L2.wipe σ vs) ow2 H2 (L2.wipe σ4 vs1) (wipeR ρ7 vs1) (wipeO ow7 vs1) H7 := fun {σ7 ρ7 ow7 H7} k7 e7 =>
              ⟨k7.kp, fun a z => k7.sub a (wipeO_sub z), fun j hj => by
                rw [← e7, wipe_not (fun z => absurd (okSlot.le (List.all_eq_true.mp hok j z)) (by omega))]
                exact k7.pin j hj, by have := k7.rel.wipe vs1; rw [e7] at this; exact this⟩
            have outr : ∀ {σ7 : L2.St} {ρ7 : Rho} {ow7 : Own} {H7 : Hp}, Go K g (L2.wipe σ vs) ow2 H2 σ7 ρ7 ow7 H7 → L2.wipe σ7 vs = L2.wipe σ vs → Go K g (L2.wipe σ vs) ow2 H2 (L2.wipe σ vs) (wipeR ρ7 vs) (wipeO ow7 vs) H7 := fun {σ7 ρ7 ow7 H7} k7 e7 =>
              ⟨k7.kp, fun a z => k7.sub a (wipeO_sub z), fun _ _ => rfl, by have := k7.rel.wipe vs; rw [e7] at this; exact this⟩
            have ww : L2.wipe (L2.wipe σ4 vs1) vs = L2.wipe σ vs := by
              have : SameOut vs1 σ4 (L2.wipe σ4 vs1) := ⟨wipe_length _ _, fun i hi => wipe_not hi⟩
              rw [← ew]
              have hl : (L2.wipe (L2.wipe σ4 vs1) vs).length = (L2.wipe σ4 vs).length := by rw [wipe_length, wipe_length, wipe_length]
              refine List.ext_getElem? fun i => ?_
              by_cases hi : i ∈ vs
              · have key : ∀ (s : L2.St), (∀ x, (L2.wipe s vs)[i]? ≠ some (some x)) := fun s x e => (wipe_some e).2 hi
                cases e1 : (L2.wipe (L2.wipe σ4 vs1) vs)[i]? with
                | none =>
                  have := List.getElem?_eq_none_iff.mp e1
                  rw [hl] at this
                  exact (List.getElem?_eq_none_iff.mpr this).symm
                | some o =>
                  cases o with
                  | some x => exact absurd e1 (key _ x)
                  | none =>
                    have hlt := (List.getElem?_eq_some_iff.mp e1).1
                    rw [hl] at hlt
                    cases e2 : (L2.wipe σ4 vs)[i]? with
                    | none => exact absurd (List.getElem?_eq_none_iff.mp e2) (by omega)
                    | some o2 =>
                      cases o2 with
                      | none => rfl
                      | some x => exact absurd e2 (key _ x)
              · rw [wipe_not hi, wipe_not hi, wipe_not (fun z => hi (h1s i z))]
            have kb0 := inn k35 rfl
            have stays : ∀ {σ7 : L2.St} {ρ7 : Rho} {ow7 : Own} {H7 : Hp}, Go K g (L2.wipe σ vs) ow2 H2 σ7 ρ7 ow7 H7 → H7 p = some (.lst acc) ∧ ¬ InO ow7 p := fun {σ7 ρ7 ow7 H7} k7 =>
              ⟨k7.kp.ext p _ hp2 np (fun _ z => by cases z), fun z => (k7.sub p z).elim np fun q => by rw [hp2] at q; cases q⟩
            obtain ⟨q1, q2⟩ := stays kb0
            refine ⟨fun j m H7 => m = es.length - j ∧ j ≤ es.length ∧ ∃ ρj ow7 acc7 ad7 yr7, Go K g (L2.wipe σ vs) ow1 H1 (L2.wipe σ4 vs1) ρj ow7 H7 ∧ ImKeep H5 H7 ∧ ¬ InO ow7 p ∧ H7 p = some (.lst acc7) ∧ ImAll K H7 acc7 ad7 ∧ lcIn u e vs1 (es.drop j) ρj = some (yr7, ρ5) ∧ ad7 ++ yr7 = ads ++ yi,
              ⟨_, rfl, Nat.zero_le _, wipeR ρ4 vs1, wipeO ow5 vs1, acc, ads, yi, k2.trans kb0, ImKeep.refl _, q2, q1, kb0.ims ia, h5, rfl⟩, ?_⟩
            rintro j m7 H7 ⟨rfl, hj7, ρj, ow7, acc7, ad7, yr7, k7, ik7, np7, hp7, ia7, hg7, ey7⟩
            obtain ⟨er1, er2⟩ := dr5 H7 ik7 j
            cases he : es[j]? with
            | none =>
              refine .inl ⟨er2 he, ?_⟩
              have hl : es.length ≤ j := List.getElem?_eq_none_iff.mp he
              rw [List.drop_of_length_le hl] at hg7
              cases hg7
              rw [List.append_nil] at ey7
              subst ey7
              refine ⟨wipeR ρ5 vs, wipeO ow7 vs, acc7, ads ++ yi, zr, ⟨k7.kp, fun a z => k7.sub a (wipeO_sub z), fun _ _ => rfl, by have := k7.rel.wipe vs; rw [ww] at this; exact this⟩, fun z => np7 (wipeO_sub z), hp7, ia7, h6, by rw [List.append_assoc]; exact ey⟩
            | some d7 =>
              obtain ⟨go7, yl7⟩ := er1 d7 he
              have hlt7 : j < es.length := (List.getElem?_eq_some_iff.mp he).1
              rw [drop_get he, lcIn] at hg7
              cases hu : u d7 ρj with
              | none => simp only [hu] at hg7; cases hg7
              | some ρ8 =>
                simp only [hu] at hg7
                cases hv : e ρ8 with
                | none => simp only [hv] at hg7; cases hg7
                | some q =>
                  obtain ⟨yv, ρ9⟩ := q
                  simp only [hv] at hg7
                  split at hg7
                  · cases hg7
                  rename_i yr8 ρ10 h10
                  cases hg7
                  refine .inr ⟨go7, fun H' => ∃ ρj ow7 acc7 ad7 yr7, Go K g (L2.wipe σ vs) ow1 H1 (L2.wipe σ4 vs1) ρj ow7 H' ∧ ImKeep H5 H' ∧ ¬ InO ow7 p ∧ H' p = some (.lst acc7) ∧ ImAll K H' acc7 ad7 ∧ lcIn u e vs1 (es.drop (j + 1)) ρj = some (yr7, ρ5) ∧ ad7 ++ yr7 = ads ++ yi,
                    fun H' n' => ⟨es.length - (j + 1), by omega, rfl, by omega, n'⟩, fun x8 H8 y8 => ?_⟩
                  obtain ⟨sm8, im8⟩ := yl7 x8 H8 y8
                  have s8 := k7.rel.goSame sm8
                  refine ⟨d7, ρj, ow7, ρ8, hu, im8, s8.rel, fun σ9 ow9 H9 k9 so9 => ?_⟩
                  have ew9 := wipe_same hus so9
                  refine ⟨ew9, ?_⟩
                  refine iteT ?_
                  refine ⟨ρ8, ow9, yv, ρ9, hv, k9.rel, fun v ow10 H10 k10 i10 => ?_⟩
                  have kt := (s8.trans k9).trans k10
                  have p1 : H10 p = some (.lst acc7) := kt.kp.ext p _ hp7 np7 (fun _ z => by cases z)
                  have p2 : ¬ InO ow10 p := fun z => (kt.sub p z).elim np7 fun q => by rw [hp7] at q; cases q
                  have ia10 := kt.ims ia7
                  refine ⟨acc7, p1, ?_, ?_⟩
                  · rw [ia10.len]
                    refine Nat.lt_of_lt_of_le (m := most) ?_ most_line
                    have e1 := congrArg List.length ey
                    have e2 := congrArg List.length ey7
                    simp only [List.length_append, List.length_cons] at e1 e2
                    omega
                  · have kw : Kp g.T (B1 p) H10 (upd H10 p (.lst (acc7 ++ [v]))) := .write p1 trivial lst_code
                    have kf := k7.trans kt
                    refine ⟨wipeR ρ9 vs1, wipeO ow10 vs1, acc7 ++ [v], ad7 ++ [yv], yr8, ⟨kf.kp.trans kw fun b z => .inr (by rw [z]; exact hp), fun a z => kf.sub a (wipeO_sub z), fun j hj => ?_, ?_⟩, (ik7.trans kt.kp.imm).trans kw.imm, fun z => p2 (wipeO_sub z), upd_same, (ia10.append (.cons i10 .nil)).up kw.imm, h10, by rw [List.append_assoc]; exact ey7⟩
                    · exact k7.pin j hj
                    · have := (kf.rel.off p2 kw).wipe vs1
                      rw [ew9] at this
                      exact this
    · cases h
  · cases h
variable {elt tg iter tg1 iter1 : Expr} {scope : Scope} {fi fj : M (List D)} {t u : D → Rho → Option Rho} {ts us : List Nat} {fe : M D}
theorem q_lc2 (own : List (Str × Nat)) (vs1 : List Nat) (hN : X.N.Nodup) (hi : QI X g tg iter fi) (ok : BlkOk X.N X.env.scope scope own) (hts : ∀ i ∈ ts, i ∈ own.map (·.2)) (hus : ∀ i ∈ us, i ∈ vs1) (h1s : ∀ i ∈ vs1, i ∈ own.map (·.2))
    (hg : ∀ (s : Shared) (H : Hp) (C : Addr) (cl : List (Str × Addr)) (fp : List Addr), QG (X.blk s H scope (compEnvC scope cl C X.env) fp) g tg t ts)
    (hi1 : ∀ (s : Shared) (H : Hp) (C : Addr) (cl : List (Str × Addr)) (fp : List Addr), QI (X.blk s H scope (compEnvC scope cl C X.env) fp) g tg1 iter1 fj)
    (hg1 : ∀ (s : Shared) (H : Hp) (C : Addr) (cl : List (Str × Addr)) (fp : List Addr), QG (X.blk s H scope (compEnvC scope cl C X.env) fp) g tg1 u us)
    (he : ∀ (s : Shared) (H : Hp) (C : Addr) (cl : List (Str × Addr)) (fp : List Addr), QE (X.blk s H scope (compEnvC scope cl C X.env) fp) g elt fe) (hok : vs1.all (okSlot g) = true := by rfl) (hc : X.calm = true := by rfl)
    (hs : ∀ x, foldedSetIterable iter X.env x = pure x := by intro _; rfl) (hs1 : ∀ env x, foldedSetIterable iter1 env x = pure x := by intro _ _; rfl) :
    QE X g (.ListComp elt [⟨tg, iter, [], 0⟩, ⟨tg1, iter1, [], 0⟩] scope pos) (eLc2 fi t fj u fe (own.map (·.2)) vs1) :=
  pe_conv (pe_fz (pe_lc2 (g := xG X.K g t ts) (tt := tYes) (wi1 := xI X.K g fj) (g1 := xG X.K g u us) (tt1 := tYes) (te := xE X.K g fe) hc hN hi ok h1s hg (fun _ _ _ _ _ => pts_nil) hi1 hg1 (fun _ _ _ _ _ => pts_nil) he hs hs1)) (lc2_of hts hus h1s hok)
end
end VS

namespace VS
open PySem PySem.Spec PyProof.Rows L2

/-! ### a, b, c = x, y, [] with a list of its own for c; a, b = [], y -/
def sPar3O (i j l : Nat) (fs : M (List D)) : MS := fun ρ => match fs ρ with
  | some ([a, b], ρ1) => some (.nx, ((ρ1.set i (some (.dat a))).set j (some (.dat b))).set l (some (.ol [])))
  | _ => none
section
variable {X : Cx} {g : Gx} {pos : Pos} {fa fb : M D}
theorem q_par3O (i j l : Nat) {x y z : Str} {ea eb : Expr} {px py pz pt p2 : Pos} {kt k2 pt2} (hN : X.N.Nodup) (ha : QE X g ea fa) (hb : QE X g eb fb) (hl1 : okSlot g i = true := by rfl) (hl2 : okSlot g j = true := by rfl) (hl3 : okSlot g l = true := by rfl) (hij : i ≠ j := by decide) (hil : i ≠ l := by decide) (hjl : j ≠ l := by decide) (hc : X.calm = true := by rfl)
    (hi : X.N[i]? = some x := by rfl) (hj : X.N[j]? = some y := by rfl) (hl : X.N[l]? = some z := by rfl)
    (hx : X.env.scope.names.lookup x = some .local := by rfl) (hy : X.env.scope.names.lookup y = some .local := by rfl) (hz : X.env.scope.names.lookup z = some .local := by rfl)
    (h1 : starEach [ea, eb, .List [] p2] X.env = (false, eval ea X.env) :: starEach [eb, .List [] p2] X.env := by rfl) (h2 : starEach [eb, .List [] p2] X.env = (false, eval eb X.env) :: starEach [.List [] p2] X.env := by rfl)
    (h3 : starEach [.List [] p2] X.env = (false, eval (.List [] p2) X.env) :: starEach [] X.env := by rfl)
    (hw : swappedStores [.Tuple [.Name x px, .Name y py, .Name z pz] kt pt] (.Tuple [ea, eb, .List [] p2] k2 pt2) X.env = pure (some [x, y, z]) := by rfl)
    (hs : swapsWithSole [.Tuple [.Name x px, .Name y py, .Name z pz] kt pt] (.Tuple [ea, eb, .List [] p2] k2 pt2) pos.line X.env = pure false := by rfl) :
    QS X g (.Assign [.Tuple [.Name x px, .Name y py, .Name z pz] kt pt] (.Tuple [ea, eb, .List [] p2] k2 pt2) pos) (sPar3O i j l (aCons fa (aCons fb aNil))) := by
  refine ps_conv (ps_par3 hc hN hi hj hl hij hil hjl hx hy hz (pa_cons ha (pa_cons hb (pa_cons (pe_lst pa_nil) pa_nil h3) h2) h1) hw hs) ?_
  rintro Dn σ H ⟨ρ, own, fl, ρ', h, R, k⟩
  unfold sPar3O at h
  split at h
  · rename_i d1 d2 ρ1 hh
    cases h
    obtain ⟨x1, ρa, xs1, q1, q2, e⟩ := aCons_some hh
    obtain ⟨x2, ρb, xs2, q3, q4, e'⟩ := aCons_some q2
    cases q4
    cases e'
    cases e
    refine ⟨ρ, own, d1, ρa, q1, R, fun v1 ow1 H1 k1 i1 => ⟨ρa, ow1, d2, _, q3, k1.rel, fun v2 ow2 H2 k2 i2 => ⟨Nat.zero_le _, fun p hp => ?_⟩⟩⟩
    obtain ⟨ow3, g3⟩ := k2.rel.set hl1 (k2.im i1)
    obtain ⟨ow4, g4⟩ := g3.rel.set hl2 i2
    obtain ⟨ow5, g5⟩ := g4.rel.setO hl3 (.new hp) hp upd_same (es := []) .nil
    exact ⟨v1, v2, .ref p, rfl, k _ ow5 _ ((((k1.trans k2).trans g3).trans g4).trans g5)⟩
  · cases h
end
end VS

namespace VS
open PySem PySem.Spec PyProof.Rows L2

/-! ### the end: from the top's facts to the row -/
section
variable {P : Program} {w : World} {K : PySem.W.Frag} {mg : Str → Option Value} {base : Heap}
theorem fn_data {x qual : Str} {st : Stmt} {N ps : List Str} {k nn n : Nat} {T : Tb} {body : MS} {f : Addr} {fd : FuncData} (F : Fun K x qual st f fd) (S : FnScope N ps (defScope st)) (hN : N.length = nn) (hn : ps.length = n)
    (hb : ∀ (f : Addr) (cdv : Value) (A : Around) (outer : List Env) (s : Shared) (H : Hp) (E : XK), Room k (A.deeper (envOfC qual (defScope st) s.heap.objs.size f cdv)) → QSs (cx0 P w K mg base N qual st f cdv A outer s H E) ⟨T, nn, 0⟩ (defBody st) body) :
    FnOk P w K mg base CX0 (k + 1) f fd ps (spD K T (callD nn n body)) := by
  have hpl : ps.length ≤ N.length := by have := congrArg List.length S.pre; rw [List.length_take] at this; omega
  refine F.ok S (fun vs H Q E h => ?_) (fun cdv A outer s H vs Q E hr h => ⟨_, hb f cdv A outer s H E hr, ?_⟩)
  · obtain ⟨ds, d, im, hF, _⟩ := h
    rw [im.len, (callD_some hF).1, hn]
  · obtain ⟨ds, d, im, hF, tb, q⟩ := h
    obtain ⟨hl, fl, ρ', h1, h2⟩ := callD_some hF
    refine ⟨_, _, fl, ρ', h1, rel_start hN im tb (by rw [im.len, hl, ← hn]; exact hpl), fun σ' ow H' go => ?_⟩
    have kp : Kp T B0 H H' := go.kp.sub fun b z => (not_in0 z).elim
    rcases h2 with rfl | ⟨rfl, rfl⟩
    · exact fun v i => q v H' kp go.rel.tb i
    · exact q _ H' kp go.rel.tb .non
theorem df_mk {h : Heap} {x : Str} {st : Stmt} {ps : List Str} {f : Addr} {oc : Value} {od an : Option Addr} {osl : Array (Option Value)} {kV doc pm cdv ct : Value} (X : K.In h) (G : h.Ns mainGlobals mg)
    (hb : ∀ (kV doc pm : Value) (an : Option Addr) (cdv ct : Value) (us : List Value), us.length = ps.length → bindArgs (PySem.W.fnOf x x (defArgs st) (defBody st) (defScope st) .none kV doc pm an cdv ct) ⟨us, []⟩ = pure (ps.zip us))
    (a : PySem.W.nsIn K mainGlobals x = some (some (.ref f))) (l : K.lookup f = some ⟨oc, od, .func (PySem.W.fnOf x x (defArgs st) (defBody st) (defScope st) .none kV doc pm an cdv ct), osl⟩)
    (c : PySem.W.codeIn K cdv x = true) (k : PySem.W.keepIn K (.ref f) = true) : Df K mg x x st ps :=
  ⟨f, _, fun_mk l c k, PySem.W.mg_of X G a, (fun_mk l c k).binds hb⟩
theorem law_mk {h : Heap} {x : Str} {st : Stmt} {k : Nat} {sp : Sp} {fa f : Addr} {oc : Value} {od an : Option Addr} {osl : Array (Option Value)} {kV doc pm cdv ct : Value} (X : K.In h) (G : h.Ns mainGlobals mg) (hfa : mg "law" = some (.ref fa))
    (hb : ∀ (kV doc pm : Value) (an : Option Addr) (cdv ct : Value) (us : List Value), us.length = [x].length → bindArgs (PySem.W.fnOf "law" "law" (defArgs st) (defBody st) (defScope st) .none kV doc pm an cdv ct) ⟨us, []⟩ = pure ([x].zip us))
    (a : PySem.W.nsIn K mainGlobals "law" = some (some (.ref f))) (l : K.lookup f = some ⟨oc, od, .func (PySem.W.fnOf "law" "law" (defArgs st) (defBody st) (defScope st) .none kV doc pm an cdv ct), osl⟩)
    (c : PySem.W.codeIn K cdv "law" = true) (kp : PySem.W.keepIn K (.ref f) = true) (H : ∀ fd, Fun K "law" "law" st f fd → ∀ base, FnOk P w K mg base CX0 k f fd [x] sp) :
    ∃ fd : FuncData, (∀ (s : Shared) (u : Value), BindsTo s fd ⟨[u], []⟩ [(x, u)]) ∧ ∀ base : Heap, K.In base → base.Ns mainGlobals mg → FnOk P w K mg base CX0 k fa fd [x] sp := by
  have e := hfa.symm.trans (PySem.W.mg_of X G a)
  cases e
  exact ⟨_, fun s u => .of_eq (hb _ _ _ _ _ _ [u] rfl), fun base _ _ => H _ (fun_mk l c kp) base⟩
theorem gc_int {h : Heap} {x : Str} {i : Int} {t : Tok} (X : K.In h) (G : h.Ns mainGlobals mg) (a : PySem.W.nsIn K mainGlobals x = some (some (.int i t))) : GCm K mg x (.int i) :=
  ⟨_, .int i, PySem.W.mg_of X G a, ⟨_, rfl⟩, fun _ => .int i⟩
theorem gc_str {h : Heap} {x z : Str} {t : Tok} (X : K.In h) (G : h.Ns mainGlobals mg) (a : PySem.W.nsIn K mainGlobals x = some (some (.str z t))) : GCm K mg x (.str z) :=
  ⟨_, .str z, PySem.W.mg_of X G a, ⟨_, rfl⟩, fun _ => .str z⟩
theorem gc_tup {h : Heap} {x : Str} {f : Addr} {od : Option Addr} {its : Array Value} {n : Nat} {sl : Array (Option Value)} {ds : List D} (xs : List V) (X : K.In h) (G : h.Ns mainGlobals mg) (i : ∀ H, ImAll K H xs ds) (a : PySem.W.nsIn K mainGlobals x = some (some (.ref f)))
    (l : K.lookup f = some ⟨.type "tuple", od, .seq its n, sl⟩) (v : Vals xs its.toList) (z : its.size ≤ sizeLine) : GCm K mg x (.tuple ds) :=
  ⟨_, .ref f, PySem.W.mg_of X G a, rfl, fun H => .tup (.inr ⟨_, its, n, l, rfl, rfl, z, v⟩) (i H)⟩
theorem tabs_nil {H : Hp} : LamX.Tabs [] H := fun _ h => by cases h
theorem im_ints {H : Hp} : ∀ ns : List Int, ImAll K H (ns.map V.int) (ns.map .int)
  | [] => .nil
  | i :: ns => .cons (.int i) (im_ints ns)
/-- the script as data -/
theorem im_script {h : Heap} {H : Hp} {a : Addr} {vs : List Value} {ns : List Int} (KX : K.In h) (ho : h.get? a = some { cls := .type "list", data := .seq vs.toArray }) (hO : Only H) (hS : SqL K H a (ns.map V.int)) : Im K H (.ref a) (.list (ns.map .int)) := by
  refine .lst ?_ (im_ints ns)
  rcases hS with (h1 | ⟨o, h1⟩) | ⟨o, its, n, k1, k2, k3, k4, k5, k6⟩
  · rcases hO a with z | ⟨o, xs, z⟩
    · rw [h1] at z; cases z
    · rw [h1] at z; cases z
  · exact .inl ⟨o, h1⟩
  · have e := KX a o k1
    rw [ho] at e
    have e' := Option.some.inj e
    subst e'
    cases k4
    exact .inr ⟨vs, _, k1, by simpa using k5, by simpa using k6⟩
theorem sp_law {h : Heap} {H : Hp} {a : Addr} {vs : List Value} {ns : List Int} {F : List D → Option D} {E : XK} (hF : F [.list (ns.map .int)] = some (.bool true)) (KX : K.In h) (ho : h.get? a = some { cls := .type "list", data := .seq vs.toArray }) (hO : Only H) (hS : SqL K H a (ns.map V.int)) :
    spD K [] F [.ref a] H (fun v _ => v = .bl true) E :=
  ⟨_, _, .cons (im_script KX ho hO hS) .nil, hF, tabs_nil, fun v H' _ _ i => i.ofBool⟩
end
/-- the row, from the law's def as walked and its plain law -/
theorem walk_end {l : PySem.W.OpenLaw} {n k : Nat} {q : Program} {loose : List Str} {XP : (Str → Option Value) → Heap → Prop} {YP : World → Heap → Prop} {d : DefRec} {K : Params → PySem.W.Frag} {F : List D → Option D} {x : Str} {st : Stmt}
    (hn : l.most = some n) (hn2 : n ≤ sizeLine) (hdf : d.params.defaults = []) (hr : Room k callerA)
    (hF : ∀ ns : List Int, F [.list (ns.map .int)] = some (.bool true))
    (hY : ∀ (w : World) (h : Heap), YP w h → (K w.params).In h)
    (hL : ∀ (w : World) (mg : Str → Option Value) (fa : Addr) (h : Heap), (K w.params).In h → h.Ns mainGlobals mg → mg d.name = some (.ref fa) →
      ∃ fd : FuncData, (∀ (s : Shared) (u : Value), BindsTo s fd ⟨[u], []⟩ [(x, u)]) ∧ ∀ base : Heap, (K w.params).In base → base.Ns mainGlobals mg → FnOk l.prog w (K w.params) mg base CX0 k fa fd [x] (spD (K w.params) [] F)) :
    PySem.W.WalkO q loose XP YP l.row.toRowW d [] (fun f vs => PySem.call f vs) := by
  refine Att.attach_call hn hdf fun w s₀ s₁ mg mb fa o pm cd doc a vs ns G Y ho hd hcd hmg hobj hints hlen hg => ?_
  have KX := hY w _ Y
  obtain ⟨fd, hb, hF'⟩ := hL w mg fa _ KX G.T.g hmg
  exact law_call KX G.T.g G.T.b G.T.builtins G.T.nolimit hg hobj hints (Nat.le_trans hlen hn2) hr hF' hb (fun H hO hS => sp_law (hF ns) KX hobj hO hS) fun H e s' h => h
end VS

namespace VS
open PySem PySem.Spec PyProof.Rows L2
def c_HEARINGS : D := (.tuple [(.str (Str.ofString "none")), (.str (Str.ofString "torn")), (.str (Str.ofString "whole"))])
def c_MOST_CHOICES : D := (.int 60)
def c_MOST_SIZE : D := (.int 10000)
def c_QUIET : D := (.str (Str.ofString "quiet"))
def c_SPEAKS : D := (.str (Str.ofString "speaks"))
/-- is_within(value, low, high); slots: 0 value 1 low 2 high -/
def B_is_within : MS :=
  (sRet (eAnd (e1 (dIsi .int) (eVar 0)) (eAnd (e1 dNot (e1 (dIsi .bool) (eVar 0))) (eChain dLe dLe (eVar 1) (eVar 0) (eVar 2)))))
def F_is_within : List D → Option D := callD 3 3 (B_is_within)
/-- is_span(value, low, high); slots: 0 value 1 low 2 high -/
def B_is_span : MS :=
  (sSeq (sIf (tOrM (e1 tNotB (e1 asB (e1 (dIsi .tup) (eVar 0)))) (e1 asB (e2 dNe (e1 fLen (aCons (eVar 0) aNil)) (eC (.int 2))))) (sRet (eC (.bool false))) sNx)
  (sRet (eAnd (e1 F_is_within (aCons (e2 dIx (eVar 0) (eC (.int 0))) (aCons (eVar 1) (aCons (eVar 2) aNil)))) (e1 F_is_within (aCons (e2 dIx (eVar 0) (eC (.int 1))) (aCons (e2 dIx (eVar 0) (eC (.int 0))) (aCons (eVar 2) aNil)))))))
def F_is_span : List D → Option D := callD 3 3 (B_is_span)
/-- is_habit(value); slots: 0 value -/
def B_is_habit : MS :=
  (sSeq (sIf (tOrM (e1 tNotB (e1 asB (e1 (dIsi .tup) (eVar 0)))) (e1 asB (e2 dNe (e1 fLen (aCons (eVar 0) aNil)) (eC (.int 4))))) (sRet (eC (.bool false))) sNx)
  (sSeq (sIf (tOrM (e1 tNotB (e1 asB (e1 F_is_span (aCons (e2 dIx (eVar 0) (eC (.int 0))) (aCons (eC (.int 2)) (aCons (eC (.int 4)) aNil)))))) (e1 tNotB (e1 asB (e1 F_is_span (aCons (e2 dIx (eVar 0) (eC (.int 1))) (aCons (eC (.int 1)) (aCons (eC (.int 6)) aNil))))))) (sRet (eC (.bool false))) sNx)
  (sRet (eAnd (e1 (dIsi .bool) (e2 dIx (eVar 0) (eC (.int 2)))) (e1 (dIsi .bool) (e2 dIx (eVar 0) (eC (.int 3))))))))
def F_is_habit : List D → Option D := callD 1 1 (B_is_habit)
/-- size_of(plan); slots: 0 plan 1 found 2 delay 3 sentence 4 wait 5 stops 6 eager -/
def B_size_of : MS :=
  (sSeq (sAsg (eC (.int 1)) (gName 1))
  (sSeq (sFor (e1 iZ (aCons (e2 dIx (eVar 0) (eC (.int 0))) (aCons (e2 dIx (eVar 0) (eC (.int 1))) aNil))) (gTup (gsCons (gTup (gsCons (gName 3) (gsCons (gName 4) (gsCons (gName 5) (gsCons (gName 6) gsNil))))) (gsCons (gName 2) gsNil))) (sAsg (e2 dMul (e2 dMul (e2 dMul (eVar 1) (eC (.int 3))) (e2 dAdd (e2 dAdd (e2 dIx (eVar 4) (eC (.int 1))) (e2 dIx (eVar 3) (eC (.int 1)))) (eC (.int 1)))) (e2 dAdd (e2 dMul (eC (.int 2)) (eVar 2)) (eC (.int 1)))) (gName 1)))
  (sRet (eVar 1))))
def F_size_of : List D → Option D := callD 7 1 (B_size_of)
/-- is_plan(value); slots: 0 value 1 part 2 habit 3 delay -/
def B_is_plan : MS :=
  (sSeq (sIf (tOrM (e1 tNotB (e1 asB (e1 (dIsi .tup) (eVar 0)))) (tOrM (e1 asB (e2 dNe (e1 fLen (aCons (eVar 0) aNil)) (eC (.int 3)))) (e1 tNotB (e1 asB (e1 (dIsi .bool) (e2 dIx (eVar 0) (eC (.int 2)))))))) (sRet (eC (.bool false))) sNx)
  (sSeq (sIf (e1 tNotB (e1 asB (e1 fAll (aCons (eLc (e1 iSeq (eSl (eVar 0) oNone (oSome (eC (.int 2))))) (gName 1) tYesM (eAnd (e1 (dIsi .tup) (eVar 1)) (e2 dEq (e1 fLen (aCons (eVar 1) aNil)) (eC (.int 2)))) [1]) aNil)))) (sRet (eC (.bool false))) sNx)
  (sSeq (sIf (e1 tNotB (e1 asB (e1 fAll (aCons (eLc (e1 iSeq (e2 dIx (eVar 0) (eC (.int 0)))) (gName 2) tYesM (e1 F_is_habit (aCons (eVar 2) aNil)) [2]) aNil)))) (sRet (eC (.bool false))) sNx)
  (sRet (eAnd (e1 fAll (aCons (eLc (e1 iSeq (e2 dIx (eVar 0) (eC (.int 1)))) (gName 3) tYesM (e1 F_is_within (aCons (eVar 3) (aCons (eC (.int 1)) (aCons (eC (.int 3)) aNil)))) [3]) aNil)) (e2 dLe (e1 F_size_of (aCons (eVar 0) aNil)) (eC c_MOST_SIZE)))))))
def F_is_plan : List D → Option D := callD 4 1 (B_is_plan)
/-- look_at_plan(plan); slots: 0 plan -/
def B_look_at_plan : MS :=
  (sIf (e1 tNotB (e1 asB (e1 F_is_plan (aCons (eVar 0) aNil)))) sNever sNx)
def F_look_at_plan : List D → Option D := callD 1 1 (B_look_at_plan)
/-- begin_of(plan); slots: 0 plan 1 delay -/
def B_begin_of : MS :=
  (sRet (e1 mkT (aCons (e2 dMul (e1 mkT (aCons (e1 mkT (aCons (eC c_QUIET) (aCons (eC (.int 0)) (aCons (eC (.str (Str.ofString "none"))) aNil)))) aNil)) (eC (.int 2))) (aCons (e1 fTuple (aCons (eLc (e1 iSeq (e2 dIx (eVar 0) (eC (.int 1)))) (gName 1) tYesM (e2 dMul (e1 mkT (aCons (eC (.int 0)) aNil)) (eVar 1)) [1]) aNil)) aNil))))
def F_begin_of : List D → Option D := callD 2 1 (B_begin_of)
/-- first_stand(plan); slots: 0 plan -/
def B_first_stand : MS :=
  (sSeq (sDrop (e1 F_look_at_plan (aCons (eVar 0) aNil)))
  (sRet (e1 F_begin_of (aCons (eVar 0) aNil))))
def F_first_stand : List D → Option D := callD 1 1 (B_first_stand)
/-- is_part(habit, value); slots: 0 habit 1 value 2 at -/
def B_is_part : MS :=
  (sSeq (sIf (tOrM (e1 tNotB (e1 asB (e1 (dIsi .tup) (eVar 1)))) (tOrM (e1 asB (e2 dNe (e1 fLen (aCons (eVar 1) aNil)) (eC (.int 3)))) (e1 tNotB (e1 asB (e1 fAll (aCons (eLc (e1 iSeq (e1 mkT (aCons (eC (.int 0)) (aCons (eC (.int 2)) aNil)))) (gName 2) tYesM (e1 (dIsi .str) (e2 dIx (eVar 1) (eVar 2))) [2]) aNil)))))) (sRet (eC (.bool false))) sNx)
  (sSeq (sIf (tOrM (e1 asB (e2 (dIn true) (e2 dIx (eVar 1) (eC (.int 2))) (eC c_HEARINGS))) (e1 asB (e2 (dIn true) (e2 dIx (eVar 1) (eC (.int 0))) (e1 mkT (aCons (eC c_QUIET) (aCons (eC c_SPEAKS) aNil)))))) (sRet (eC (.bool false))) sNx)
  (sSeq (sIf (e1 asB (e2 dEq (e2 dIx (eVar 1) (eC (.int 0))) (eC c_QUIET))) (sRet (e1 F_is_within (aCons (e2 dIx (eVar 1) (eC (.int 1))) (aCons (eC (.int 0)) (aCons (e2 dIx (e2 dIx (eVar 0) (eC (.int 1))) (eC (.int 1))) aNil))))) sNx)
  (sRet (e1 F_is_within (aCons (e2 dIx (eVar 1) (eC (.int 1))) (aCons (eC (.int 1)) (aCons (e2 iSub (e2 dIx (e2 dIx (eVar 0) (eC (.int 0))) (eC (.int 1))) (eC (.int 1))) aNil))))))))
def F_is_part : List D → Option D := callD 3 2 (B_is_part)
/-- is_line(delay, value); slots: 0 delay 1 value 2 sign -/
def B_is_line : MS :=
  (sRet (eAnd (e1 (dIsi .tup) (eVar 1)) (eAnd (e2 dEq (e1 fLen (aCons (eVar 1) aNil)) (eVar 0)) (e1 fAll (aCons (eLc (e1 iSeq (eVar 1)) (gName 2) tYesM (e1 F_is_within (aCons (eVar 2) (aCons (eC (.int 0)) (aCons (eC (.int 3)) aNil)))) [2]) aNil)))))
def F_is_line : List D → Option D := callD 3 2 (B_is_line)
/-- fits(plan, value); slots: 0 plan 1 value 2 part 3 delay 4 line 5 habit -/
def B_fits : MS :=
  (sSeq (sIf (tOrM (e1 tNotB (e1 asB (e1 (dIsi .tup) (eVar 1)))) (e1 asB (e2 dNe (e1 fLen (aCons (eVar 1) aNil)) (eC (.int 2))))) (sRet (eC (.bool false))) sNx)
  (sSeq (sIf (e1 tNotB (e1 asB (e1 fAll (aCons (eLc (e1 iSeq (eVar 1)) (gName 2) tYesM (eAnd (e1 (dIsi .tup) (eVar 2)) (e2 dEq (e1 fLen (aCons (eVar 2) aNil)) (eC (.int 2)))) [2]) aNil)))) (sRet (eC (.bool false))) sNx)
  (sSeq (sIf (e1 tNotB (e1 asB (e1 fAll (aCons (eLc (e1 iZ (aCons (e2 dIx (eVar 0) (eC (.int 0))) (aCons (e2 dIx (eVar 1) (eC (.int 0))) aNil))) (gTup (gsCons (gName 5) (gsCons (gName 2) gsNil))) tYesM (e1 F_is_part (aCons (eVar 5) (aCons (eVar 2) aNil))) [5, 2]) aNil)))) (sRet (eC (.bool false))) sNx)
  (sRet (e1 fAll (aCons (eLc (e1 iZ (aCons (e2 dIx (eVar 0) (eC (.int 1))) (aCons (e2 dIx (eVar 1) (eC (.int 1))) aNil))) (gTup (gsCons (gName 3) (gsCons (gName 4) gsNil))) tYesM (e1 F_is_line (aCons (eVar 3) (aCons (eVar 4) aNil))) [3, 4]) aNil))))))
def F_fits : List D → Option D := callD 6 2 (B_fits)
/-- is_stand(plan, value); slots: 0 plan 1 value -/
def B_is_stand : MS :=
  (sSeq (sDrop (e1 F_look_at_plan (aCons (eVar 0) aNil)))
  (sRet (e1 F_fits (aCons (eVar 0) (aCons (eVar 1) aNil)))))
def F_is_stand : List D → Option D := callD 2 2 (B_is_stand)
/-- _law_spring(script, at); slots: 0 script 1 at 2 cell 3 mixed -/
def B__law_spring : MS :=
  (sSeq (sAsg (eC (.int 7)) (gName 2))
  (sSeq (sIf (e1 asB (e2 dLt (eVar 1) (e1 fLen (aCons (eVar 0) aNil)))) (sAsg (e1 fAbs (aCons (e2 dIx (eVar 0) (eVar 1)) aNil)) (gName 2)) sNx)
  (sSeq (sAsg (e2 iMod (e1 fInt (aCons (e2 dAdd (e2 dAdd (e2 dMul (eVar 2) (eC (.int 863))) (e2 dMul (eC (.int 524287)) (eVar 1))) (eC (.int 1))) aNil)) (eC (.int 999999999989))) (gName 3))
  (sRetO (aCons (eIf (e1 asB (e2 dGe (eVar 2) (e2 iPow (eC (.int 10)) (eC (.int 18))))) (eVar 2) (eC (.int 0))) (aCons (eVar 3) aNil))))))
def F__law_spring : List D → Option (List D) := callO 4 2 (B__law_spring)
/-- _law_pick(spring, many); slots: 0 spring 1 many 2 digit -/
def B__law_pick : MS :=
  (sSeq (sIf (e1 asB (e2 dGt (eIxO 0 (eC (.int 0))) (eC (.int 0)))) (sSeq (sAsg (e2 iMod (e1 fInt (aCons (eIxO 0 (eC (.int 0))) aNil)) (eVar 1)) (gName 2))
  (sSeq (sSetO 0 (e2 iDiv (eIxO 0 (eC (.int 0))) (eVar 1)) (eC (.int 0)))
  (sRet (eVar 2)))) sNx)
  (sSeq (sSetO 0 (e2 iMod (e1 fInt (aCons (e2 dAdd (e2 dMul (eIxO 0 (eC (.int 1))) (eC (.int 393555900739))) (eC (.int 8191))) aNil)) (eC (.int 999999999989))) (eC (.int 1)))
  (sRet (e2 iMod (e1 fInt (aCons (e2 iDiv (eIxO 0 (eC (.int 1))) (eC (.int 4093))) aNil)) (eVar 1)))))
def F__law_pick : List D → List D → Option (D × List D) := callB 3 2 (B__law_pick)
/-- _law_kind(value); slots: 0 value -/
def B__law_kind : MS :=
  (sSeq (sIf (tOrM (e1 asB (e2 (dIsN false) (eVar 0) (eC .none))) (e1 asB (e1 (dIsi .bool) (eVar 0)))) (sRet (eIf (e1 asB (e2 (dIsN false) (eVar 0) (eC .none))) (eC (.int 0)) (eC (.int 1)))) sNx)
  (sSeq (sIf (e1 asB (e1 (dIsi2 .lst .tup) (eVar 0))) (sRet (eIf (e1 asB (e1 (dIsi .lst) (eVar 0))) (eC (.int 2)) (eC (.int 3)))) sNx)
  (sRet (eIf (e1 asB (e1 (dIsi .int) (eVar 0))) (eC (.int 4)) (eIf (e1 asB (e1 (dIsi .str) (eVar 0))) (eC (.int 5)) (eC (.int 6)))))))
def F__law_kind : List D → Option D := callD 1 1 (B__law_kind)
/-- _law_twins(one, other); slots: 0 one 1 other 2 a 3 b -/
def B__law_twins (Fr : List D → Option D) : MS :=
  (sSeq (sIf (e1 asB (e2 dNe (e1 F__law_kind (aCons (eVar 0) aNil)) (e1 F__law_kind (aCons (eVar 1) aNil)))) (sRet (eC (.bool false))) sNx)
  (sSeq (sIf (e1 asB (e2 (dIn false) (e1 F__law_kind (aCons (eVar 0) aNil)) (e1 mkL (aCons (eC (.int 2)) (aCons (eC (.int 3)) aNil))))) (sRet (eAnd (e2 dEq (e1 fLen (aCons (eVar 0) aNil)) (e1 fLen (aCons (eVar 1) aNil))) (e2 dEq (eLc (e1 iZ (aCons (eVar 0) (aCons (eVar 1) aNil))) (gTup (gsCons (gName 2) (gsCons (gName 3) gsNil))) (e1 tNotB (e1 asB (e1 Fr (aCons (eVar 2) (aCons (eVar 3) aNil))))) (eC (.int 1)) [2, 3]) (e1 mkL aNil)))) sNx)
  (sRet (e2 dEq (eVar 0) (eVar 1)))))
def F__law_twins : Nat → List D → Option D
  | 0 => fun _ => none
  | n + 1 => callD 4 2 (B__law_twins (F__law_twins n))
/-- _law_habit(spring, most); slots: 0 spring 1 most 2 low 3 sentence 4 pause -/
def B__law_habit : MS :=
  (sSeq (sAsg (e2 dAdd (eC (.int 2)) (eBor 0 F__law_pick (aCons (eC (.int 2)) aNil))) (gName 2))
  (sSeq (sAsg (e1 mkT (aCons (eVar 2) (aCons (e1 fMin2 (aCons (eC (.int 4)) (aCons (e2 dAdd (eVar 2) (e2 dIx (e1 mkL (aCons (eC (.int 0)) (aCons (eC (.int 0)) (aCons (eC (.int 1)) aNil)))) (eBor 0 F__law_pick (aCons (eC (.int 3)) aNil)))) aNil))) aNil))) (gName 3))
  (sSeq (sAsg (e2 dAdd (eC (.int 1)) (eBor 0 F__law_pick (aCons (eVar 1) aNil))) (gName 2))
  (sSeq (sAsg (e1 mkT (aCons (eVar 2) (aCons (e1 fMin2 (aCons (eC (.int 6)) (aCons (e2 dAdd (eVar 2) (e2 dIx (e1 mkL (aCons (eC (.int 0)) (aCons (eC (.int 0)) (aCons (eC (.int 1)) (aCons (eC (.int 2)) aNil))))) (eBor 0 F__law_pick (aCons (eC (.int 4)) aNil)))) aNil))) aNil))) (gName 4))
  (sRet (e1 mkT (aCons (eVar 3) (aCons (eVar 4) (aCons (e2 dGt (eBor 0 F__law_pick (aCons (eC (.int 3)) aNil)) (eC (.int 0))) (aCons (e2 dGt (eBor 0 F__law_pick (aCons (eC (.int 3)) aNil)) (eC (.int 0))) aNil))))))))))
def F__law_habit : List D → List D → Option (D × List D) := callB 5 2 (B__law_habit)
/-- _law_size(plan); slots: 0 plan 1 size 2 habit 3 delay -/
def B__law_size : MS :=
  (sSeq (sAsg (eC (.int 1)) (gName 1))
  (sSeq (sFor (e1 iZ (aCons (e2 dIx (eVar 0) (eC (.int 0))) (aCons (e2 dIx (eVar 0) (eC (.int 1))) aNil))) (gTup (gsCons (gName 2) (gsCons (gName 3) gsNil))) (sAsg (e2 dMul (e2 dMul (e2 dMul (eVar 1) (eC (.int 3))) (e2 dAdd (e2 dAdd (e2 dIx (e2 dIx (eVar 2) (eC (.int 0))) (eC (.int 1))) (e2 dIx (e2 dIx (eVar 2) (eC (.int 1))) (eC (.int 1)))) (eC (.int 1)))) (e2 dAdd (eC (.int 1)) (e2 dMul (eC (.int 2)) (eVar 3)))) (gName 1)))
  (sRet (eVar 1))))
def F__law_size : List D → Option D := callD 4 1 (B__law_size)
/-- _law_plan(spring, bound); slots: 0 spring 1 bound 2 habits 3 delays 4 plan -/
def B__law_plan : MS :=
  (sSeq (sAsg (e1 mkT (aCons (eBor 0 F__law_habit (aCons (eC (.int 4)) aNil)) (aCons (eBor 0 F__law_habit (aCons (eC (.int 4)) aNil)) aNil))) (gName 2))
  (sSeq (sAsg (e1 mkT (aCons (e2 dAdd (eC (.int 1)) (eBor 0 F__law_pick (aCons (eC (.int 2)) aNil))) (aCons (e2 dAdd (eC (.int 1)) (eBor 0 F__law_pick (aCons (eC (.int 2)) aNil))) aNil))) (gName 3))
  (sSeq (sAsg (e1 mkT (aCons (eVar 2) (aCons (eVar 3) (aCons (e2 dEq (eBor 0 F__law_pick (aCons (eC (.int 3)) aNil)) (eC (.int 0))) aNil)))) (gName 4))
  (sSeq (sIf (e1 asB (e2 dGt (e1 F__law_size (aCons (eVar 4) aNil)) (eVar 1))) (sAsg (e1 mkT (aCons (eVar 2) (aCons (e1 mkT (aCons (eC (.int 1)) (aCons (eC (.int 1)) aNil))) (aCons (e2 dIx (eVar 4) (eC (.int 2))) aNil)))) (gName 4)) sNx)
  (sSeq (sIf (e1 asB (e2 dGt (e1 F__law_size (aCons (eVar 4) aNil)) (eVar 1))) (sAsg (e1 mkT (aCons (e1 mkT (aCons (e2 dIx (eVar 2) (eC (.int 0))) (aCons (e1 mkT (aCons (e1 mkT (aCons (eC (.int 2)) (aCons (eC (.int 2)) aNil))) (aCons (e1 mkT (aCons (eC (.int 2)) (aCons (eC (.int 2)) aNil))) (aCons (e2 dIx (e2 dIx (eVar 2) (eC (.int 1))) (eC (.int 2))) (aCons (eC (.bool true)) aNil))))) aNil))) (aCons (e1 mkT (aCons (eC (.int 1)) (aCons (eC (.int 1)) aNil))) (aCons (e2 dIx (eVar 4) (eC (.int 2))) aNil)))) (gName 4)) sNx)
  (sSeq (sIf (e1 asB (e2 dGt (e1 F__law_size (aCons (eVar 4) aNil)) (eVar 1))) (sAsg (e1 mkT (aCons (e1 mkT (aCons (e1 mkT (aCons (e1 mkT (aCons (eC (.int 2)) (aCons (eC (.int 2)) aNil))) (aCons (e1 mkT (aCons (eC (.int 1)) (aCons (eC (.int 2)) aNil))) (aCons (eC (.bool true)) (aCons (eC (.bool false)) aNil))))) (aCons (e2 dIx (e2 dIx (eVar 4) (eC (.int 0))) (eC (.int 1))) aNil))) (aCons (e1 mkT (aCons (eC (.int 1)) (aCons (eC (.int 1)) aNil))) (aCons (e2 dIx (eVar 4) (eC (.int 2))) aNil)))) (gName 4)) sNx)
  (sRet (eVar 4))))))))
def F__law_plan : List D → List D → Option (D × List D) := callB 5 2 (B__law_plan)
/-- _law_first(plan); slots: 0 plan -/
def B__law_first : MS :=
  (sRet (e1 mkT (aCons (e1 mkT (aCons (e1 mkT (aCons (eC (.str (Str.ofString "quiet"))) (aCons (eC (.int 0)) (aCons (eC (.str (Str.ofString "none"))) aNil)))) (aCons (e1 mkT (aCons (eC (.str (Str.ofString "quiet"))) (aCons (eC (.int 0)) (aCons (eC (.str (Str.ofString "none"))) aNil)))) aNil))) (aCons (e1 mkT (aCons (e2 dMul (e1 mkT (aCons (eC (.int 0)) aNil)) (e2 dIx (e2 dIx (eVar 0) (eC (.int 1))) (eC (.int 0)))) (aCons (e2 dMul (e1 mkT (aCons (eC (.int 0)) aNil)) (e2 dIx (e2 dIx (eVar 0) (eC (.int 1))) (eC (.int 1)))) aNil))) aNil))))
def F__law_first : List D → Option D := callD 1 1 (B__law_first)
/-- _law_options(habit, part); slots: 0 habit 1 part 2 length 3 stay -/
def B__law_options : MS :=
  (sSeq (sIf (e1 asB (e2 dEq (e2 dIx (eVar 1) (eC (.int 0))) (eC (.str (Str.ofString "quiet"))))) (sSeq (sAsg (e1 dNot (eAnd (e2 dIx (eVar 0) (eC (.int 3))) (e2 dEq (e2 dIx (eVar 1) (eC (.int 1))) (e2 dIx (e2 dIx (eVar 0) (eC (.int 1))) (eC (.int 1)))))) (gName 3))
  (sRet (e2 dAdd (e2 dMul (e1 mkL (aCons (eC (.bool false)) aNil)) (e1 fInt (aCons (eVar 3) aNil))) (e2 dMul (e1 mkL (aCons (eC (.bool true)) aNil)) (e1 fInt (aCons (e2 dGe (e2 dIx (eVar 1) (eC (.int 1))) (e2 dIx (e2 dIx (eVar 0) (eC (.int 1))) (eC (.int 0)))) aNil)))))) sNx)
  (sSeq (sAsg (e2 dAdd (e2 dIx (eVar 1) (eC (.int 1))) (eC (.int 1))) (gName 2))
  (sRet (e2 dAdd (e2 dMul (e1 mkL (aCons (eC (.bool false)) aNil)) (e1 fInt (aCons (e2 dNe (eVar 2) (e2 dIx (e2 dIx (eVar 0) (eC (.int 0))) (eC (.int 1)))) aNil))) (e2 dMul (e1 mkL (aCons (eC (.bool true)) aNil)) (e1 fInt (aCons (e2 dLe (e2 dIx (e2 dIx (eVar 0) (eC (.int 0))) (eC (.int 0))) (eVar 2)) aNil)))))))
def F__law_options : List D → Option D := callD 4 2 (B__law_options)
/-- _law_choices(plan, stand); slots: 0 plan 1 stand 2 found 3 one 4 other -/
def L__law_choices_0 : MS :=
  (sAsg (e2 dAdd (eVar 2) (eLc (e1 iSeq (e1 F__law_options (aCons (e2 dIx (e2 dIx (eVar 0) (eC (.int 0))) (eC (.int 1))) (aCons (e2 dIx (e2 dIx (eVar 1) (eC (.int 0))) (eC (.int 1))) aNil)))) (gName 4) tYesM (e1 mkT (aCons (eVar 3) (aCons (eVar 4) aNil))) [4])) (gName 2))
def B__law_choices : MS :=
  (sSeq (sAsg (e1 mkL aNil) (gName 2))
  (sSeq (sFor (e1 iSeq (e1 F__law_options (aCons (e2 dIx (e2 dIx (eVar 0) (eC (.int 0))) (eC (.int 0))) (aCons (e2 dIx (e2 dIx (eVar 1) (eC (.int 0))) (eC (.int 0))) aNil)))) (gName 3) L__law_choices_0)
  (sRet (eVar 2))))
def F__law_choices : List D → Option D := callD 5 2 (B__law_choices)
/-- _law_voice(part, chosen); slots: 0 part 1 chosen -/
def B__law_voice : MS :=
  (sRet (e2 dIx (e2 dIx (e1 mkL (aCons (e1 mkL (aCons (eC (.int 0)) (aCons (eC (.int 1)) aNil))) (aCons (e1 mkL (aCons (eC (.int 2)) (aCons (eC (.int 3)) aNil))) aNil))) (e1 fInt (aCons (e2 dEq (e2 dIx (eVar 0) (eC (.int 0))) (eC (.str (Str.ofString "speaks")))) aNil))) (e1 fInt (aCons (eVar 1) aNil))))
def F__law_voice : List D → Option D := callD 2 2 (B__law_voice)
/-- _law_led(habit, part, voice, ear, over); slots: 0 habit 1 part 2 voice 3 ear 4 over 5 done 6 got 7 mode 8 count -/
def B__law_led : MS :=
  (sSeq (sAsg (eVar 1) (gTup (gsCons (gName 7) (gsCons (gName 8) (gsCons (gName 6) gsNil)))))
  (sSeq (sIf (e1 asB (e2 dEq (eVar 3) (eC (.int 0)))) (sAsg (eC (.str (Str.ofString "none"))) (gName 6)) (sIf (tOrM (e1 asB (e2 dGt (eVar 2) (eC (.int 0)))) (tAndM (e1 asB (e2 dGt (eVar 3) (eC (.int 1)))) (e1 asB (e2 dEq (eVar 6) (eC (.str (Str.ofString "none"))))))) (sAsg (eC (.str (Str.ofString "torn"))) (gName 6)) (sIf (e1 asB (e2 dEq (eVar 3) (eC (.int 1)))) (sAsg (eC (.str (Str.ofString "whole"))) (gName 6)) sNx)))
  (sSeq (sAsg (eAnd (e2 dEq (eVar 3) (eC (.int 3))) (e2 dEq (eVar 6) (eC (.str (Str.ofString "whole"))))) (gName 5))
  (sSeq (sAsg (eIf (e1 asB (e2 dEq (eVar 3) (eC (.int 3)))) (eC (.str (Str.ofString "none"))) (eVar 6)) (gName 6))
  (sSeq (sIf (tOrM (e1 asB (e2 dEq (eVar 2) (eC (.int 3)))) (tAndM (e1 asB (e2 dGt (eVar 2) (eC (.int 0)))) (tAndM (e1 asB (e2 dIx (eVar 0) (eC (.int 2)))) (e1 asB (e2 dGt (eVar 3) (eC (.int 0))))))) (sRet (e1 mkT (aCons (e1 mkT (aCons (eC (.str (Str.ofString "quiet"))) (aCons (eC (.int 0)) (aCons (eVar 6) aNil)))) (aCons (eVar 5) aNil)))) sNx)
  (sSeq (sIf (e1 asB (e2 dGt (eVar 2) (eC (.int 0)))) (sRet (e1 mkT (aCons (e1 mkT (aCons (eC (.str (Str.ofString "speaks"))) (aCons (eIf (e1 asB (e2 dEq (eVar 7) (eC (.str (Str.ofString "quiet"))))) (eC (.int 1)) (e2 dAdd (eVar 8) (eC (.int 1)))) (aCons (eVar 6) aNil)))) (aCons (eVar 5) aNil)))) sNx)
  (sSeq (sIf (e1 asB (e2 dEq (eVar 3) (eC (.int 0)))) (sRet (e1 mkT (aCons (e1 mkT (aCons (eC (.str (Str.ofString "quiet"))) (aCons (e1 fMin2 (aCons (e2 dAdd (eVar 8) (eC (.int 1))) (aCons (e2 dIx (e2 dIx (eVar 0) (eC (.int 1))) (eC (.int 1))) aNil))) (aCons (eVar 6) aNil)))) (aCons (eVar 5) aNil)))) sNx)
  (sRet (e1 mkT (aCons (e1 mkT (aCons (eC (.str (Str.ofString "quiet"))) (aCons (e2 dMul (e2 dIx (e2 dIx (eVar 0) (eC (.int 1))) (eC (.int 0))) (e1 fInt (aCons (eAnd (eVar 5) (eVar 4)) aNil))) (aCons (eVar 6) aNil)))) (aCons (eVar 5) aNil)))))))))))
def F__law_led : List D → Option D := callD 9 5 (B__law_led)
/-- _law_tick(plan, stand, choice); slots: 0 plan 1 stand 2 choice 3 voices 4 lines 5 one 6 got 7 other 8 given 9 line 10 back -/
def B__law_tick : MS :=
  (sSeq (sAsg (eVar 1) (gTup (gsCons (gTup (gsCons (gName 5) (gsCons (gName 7) gsNil))) (gsCons (gTup (gsCons (gName 9) (gsCons (gName 10) gsNil))) gsNil))))
  (sSeq (sAsg (e1 mkT (aCons (e1 F__law_voice (aCons (eVar 5) (aCons (e2 dIx (eVar 2) (eC (.int 0))) aNil))) (aCons (e1 F__law_voice (aCons (eVar 7) (aCons (e2 dIx (eVar 2) (eC (.int 1))) aNil))) aNil))) (gName 3))
  (sSeq (sAsg (e1 F__law_led (aCons (e2 dIx (e2 dIx (eVar 0) (eC (.int 0))) (eC (.int 0))) (aCons (eVar 5) (aCons (e2 dIx (eVar 3) (eC (.int 0))) (aCons (e2 dIx (eVar 10) (eC (.int 0))) (aCons (e2 dIx (eVar 0) (eC (.int 2))) aNil)))))) (gTup (gsCons (gName 5) (gsCons (gName 6) gsNil))))
  (sSeq (sAsg (e1 F__law_led (aCons (e2 dIx (e2 dIx (eVar 0) (eC (.int 0))) (eC (.int 1))) (aCons (eVar 7) (aCons (e2 dIx (eVar 3) (eC (.int 1))) (aCons (e2 dIx (eVar 9) (eC (.int 0))) (aCons (e2 dIx (eVar 0) (eC (.int 2))) aNil)))))) (gTup (gsCons (gName 7) (gsCons (gName 8) gsNil))))
  (sSeq (sAsg (e1 mkT (aCons (e2 dAdd (eSl (eVar 9) (oSome (eC (.int 1))) oNone) (eSl (eVar 3) oNone (oSome (eC (.int 1))))) (aCons (e2 dAdd (eSl (eVar 10) (oSome (eC (.int 1))) oNone) (eSl (eVar 3) (oSome (eC (.int 1))) oNone)) aNil))) (gName 4))
  (sRet (e1 mkT (aCons (e1 mkT (aCons (e1 mkT (aCons (eVar 5) (aCons (eVar 7) aNil))) (aCons (eVar 4) aNil))) (aCons (eVar 3) (aCons (e2 dAdd (e2 dMul (e1 mkT (aCons (eC (.int 0)) aNil)) (e1 fInt (aCons (eVar 8) aNil))) (e2 dMul (e1 mkT (aCons (eC (.int 1)) aNil)) (e1 fInt (aCons (eVar 6) aNil)))) aNil))))))))))
def F__law_tick : List D → Option D := callD 11 3 (B__law_tick)
/-- _law_int(value, low, high); slots: 0 value 1 low 2 high -/
def B__law_int : MS :=
  (sRet (eAnd (e1 (dIsi .int) (eVar 0)) (eAnd (e1 dNot (e1 (dIsi .bool) (eVar 0))) (eChain dLe dLe (eVar 1) (eVar 0) (eVar 2)))))
def F__law_int : List D → Option D := callD 3 3 (B__law_int)
/-- _law_made(value, many); slots: 0 value 1 many -/
def B__law_made : MS :=
  (sRet (eAnd (e1 (dIsi .tup) (eVar 0)) (e2 dEq (e1 fLen (aCons (eVar 0) aNil)) (eVar 1))))
def F__law_made : List D → Option D := callD 2 2 (B__law_made)
/-- _law_good_habit(value); slots: 0 value 1 span 2 low 3 high -/
def B__law_good_habit : MS :=
  (sSeq (sIf (tOrM (e1 tNotB (e1 asB (e1 F__law_made (aCons (eVar 0) (aCons (eC (.int 4)) aNil))))) (tOrM (e1 tNotB (e1 asB (e1 (dIsi .bool) (e2 dIx (eVar 0) (eC (.int 2)))))) (e1 tNotB (e1 asB (e1 (dIsi .bool) (e2 dIx (eVar 0) (eC (.int 3)))))))) (sRet (eC (.bool false))) sNx)
  (sSeq (sFor (e1 iSeq (e1 mkL (aCons (e1 mkT (aCons (e2 dIx (eVar 0) (eC (.int 0))) (aCons (eC (.int 2)) (aCons (eC (.int 4)) aNil)))) (aCons (e1 mkT (aCons (e2 dIx (eVar 0) (eC (.int 1))) (aCons (eC (.int 1)) (aCons (eC (.int 6)) aNil)))) aNil)))) (gTup (gsCons (gName 1) (gsCons (gName 2) (gsCons (gName 3) gsNil)))) (sIf (tOrM (e1 tNotB (e1 asB (e1 F__law_made (aCons (eVar 1) (aCons (eC (.int 2)) aNil))))) (tOrM (e1 tNotB (e1 asB (e1 F__law_int (aCons (e2 dIx (eVar 1) (eC (.int 0))) (aCons (eVar 2) (aCons (eVar 3) aNil)))))) (e1 tNotB (e1 asB (e1 F__law_int (aCons (e2 dIx (eVar 1) (eC (.int 1))) (aCons (e2 dIx (eVar 1) (eC (.int 0))) (aCons (eVar 3) aNil)))))))) (sRet (eC (.bool false))) sNx))
  (sRet (eC (.bool true)))))
def F__law_good_habit : List D → Option D := callD 4 1 (B__law_good_habit)
/-- _law_good_plan(value); slots: 0 value -/
def B__law_good_plan : MS :=
  (sSeq (sIf (tOrM (e1 tNotB (e1 asB (e1 F__law_made (aCons (eVar 0) (aCons (eC (.int 3)) aNil))))) (tOrM (e1 tNotB (e1 asB (e1 F__law_made (aCons (e2 dIx (eVar 0) (eC (.int 0))) (aCons (eC (.int 2)) aNil))))) (e1 tNotB (e1 asB (e1 F__law_made (aCons (e2 dIx (eVar 0) (eC (.int 1))) (aCons (eC (.int 2)) aNil))))))) (sRet (eC (.bool false))) sNx)
  (sSeq (sIf (tOrM (e1 tNotB (e1 asB (e1 (dIsi .bool) (e2 dIx (eVar 0) (eC (.int 2)))))) (tOrM (e1 tNotB (e1 asB (e1 F__law_good_habit (aCons (e2 dIx (e2 dIx (eVar 0) (eC (.int 0))) (eC (.int 0))) aNil)))) (e1 tNotB (e1 asB (e1 F__law_good_habit (aCons (e2 dIx (e2 dIx (eVar 0) (eC (.int 0))) (eC (.int 1))) aNil)))))) (sRet (eC (.bool false))) sNx)
  (sSeq (sIf (tOrM (e1 tNotB (e1 asB (e1 F__law_int (aCons (e2 dIx (e2 dIx (eVar 0) (eC (.int 1))) (eC (.int 0))) (aCons (eC (.int 1)) (aCons (eC (.int 3)) aNil)))))) (e1 tNotB (e1 asB (e1 F__law_int (aCons (e2 dIx (e2 dIx (eVar 0) (eC (.int 1))) (eC (.int 1))) (aCons (eC (.int 1)) (aCons (eC (.int 3)) aNil))))))) (sRet (eC (.bool false))) sNx)
  (sRet (e2 dLe (e1 F__law_size (aCons (eVar 0) aNil)) (eC (.int 10000)))))))
def F__law_good_plan : List D → Option D := callD 1 1 (B__law_good_plan)
/-- _law_good_stand(plan, value); slots: 0 plan 1 value 2 habit 3 part 4 bounds 5 delay 6 line 7 sign -/
def L__law_good_stand_0 : MS :=
  (sSeq (sIf (tOrM (e1 tNotB (e1 asB (e1 F__law_made (aCons (eVar 3) (aCons (eC (.int 3)) aNil))))) (tOrM (e1 tNotB (e1 asB (e1 (dIsi .str) (e2 dIx (eVar 3) (eC (.int 0)))))) (e1 tNotB (e1 asB (e1 (dIsi .str) (e2 dIx (eVar 3) (eC (.int 2)))))))) (sRet (eC (.bool false))) sNx)
  (sSeq (sIf (tOrM (e1 asB (e2 (dIn true) (e2 dIx (eVar 3) (eC (.int 0))) (e1 mkL (aCons (eC (.str (Str.ofString "quiet"))) (aCons (eC (.str (Str.ofString "speaks"))) aNil))))) (e1 asB (e2 (dIn true) (e2 dIx (eVar 3) (eC (.int 2))) (e1 mkL (aCons (eC (.str (Str.ofString "none"))) (aCons (eC (.str (Str.ofString "torn"))) (aCons (eC (.str (Str.ofString "whole"))) aNil))))))) (sRet (eC (.bool false))) sNx)
  (sSeq (sAsg (eIf (e1 asB (e2 dEq (e2 dIx (eVar 3) (eC (.int 0))) (eC (.str (Str.ofString "quiet"))))) (e1 mkT (aCons (eC (.int 0)) (aCons (e2 dIx (e2 dIx (eVar 2) (eC (.int 1))) (eC (.int 1))) aNil))) (e1 mkT (aCons (eC (.int 1)) (aCons (e2 iSub (e2 dIx (e2 dIx (eVar 2) (eC (.int 0))) (eC (.int 1))) (eC (.int 1))) aNil)))) (gName 4))
  (sIf (e1 tNotB (e1 asB (e1 F__law_int (aCons (e2 dIx (eVar 3) (eC (.int 1))) (aCons (e2 dIx (eVar 4) (eC (.int 0))) (aCons (e2 dIx (eVar 4) (eC (.int 1))) aNil)))))) (sRet (eC (.bool false))) sNx))))
def L__law_good_stand_1 : MS :=
  (sIf (tOrM (e1 tNotB (e1 asB (e1 F__law_made (aCons (eVar 6) (aCons (eVar 5) aNil))))) (e1 asB (e2 dNe (eLc (e1 iSeq (eVar 6)) (gName 7) (e1 tNotB (e1 asB (e1 F__law_int (aCons (eVar 7) (aCons (eC (.int 0)) (aCons (eC (.int 3)) aNil)))))) (eC (.int 1)) [7]) (e1 mkL aNil)))) (sRet (eC (.bool false))) sNx)
def B__law_good_stand : MS :=
  (sSeq (sIf (tOrM (e1 tNotB (e1 asB (e1 F__law_made (aCons (eVar 1) (aCons (eC (.int 2)) aNil))))) (tOrM (e1 tNotB (e1 asB (e1 F__law_made (aCons (e2 dIx (eVar 1) (eC (.int 0))) (aCons (eC (.int 2)) aNil))))) (e1 tNotB (e1 asB (e1 F__law_made (aCons (e2 dIx (eVar 1) (eC (.int 1))) (aCons (eC (.int 2)) aNil))))))) (sRet (eC (.bool false))) sNx)
  (sSeq (sFor (e1 iZ (aCons (e2 dIx (eVar 0) (eC (.int 0))) (aCons (e2 dIx (eVar 1) (eC (.int 0))) aNil))) (gTup (gsCons (gName 2) (gsCons (gName 3) gsNil))) L__law_good_stand_0)
  (sSeq (sFor (e1 iZ (aCons (e2 dIx (eVar 0) (eC (.int 1))) (aCons (e2 dIx (eVar 1) (eC (.int 1))) aNil))) (gTup (gsCons (gName 5) (gsCons (gName 6) gsNil))) L__law_good_stand_1)
  (sRet (eC (.bool true))))))
def F__law_good_stand : List D → Option D := callD 8 2 (B__law_good_stand)
/-- _law_bent(spring, value); slots: 0 spring 1 value 2 some 3 at 4 way -/
def B__law_bent (Fr : List D → List D → Option (D × List D)) : MS :=
  (sSeq (sIf (tAndM (e1 asB (e1 (dIsi .tup) (eVar 1))) (tAndM (e1 asB (e2 dNe (eVar 1) (e1 mkT aNil))) (e1 asB (e2 dGt (eBor 0 F__law_pick (aCons (eC (.int 6)) aNil)) (eC (.int 0)))))) (sSeq (sPar [3, 4] (aCons (eBor 0 F__law_pick (aCons (e1 fLen (aCons (eVar 1) aNil)) aNil)) (aCons (eBor 0 F__law_pick (aCons (eC (.int 7)) aNil)) aNil)))
  (sSeq (sIf (e1 asB (e2 dEq (eVar 4) (eC (.int 0)))) (sRet (e2 dAdd (eSl (eVar 1) oNone (oSome (eVar 3))) (eSl (eVar 1) (oSome (e2 dAdd (eVar 3) (eC (.int 1)))) oNone))) sNx)
  (sSeq (sIf (e1 asB (e2 dEq (eVar 4) (eC (.int 1)))) (sRet (e2 dAdd (e2 dAdd (eSl (eVar 1) oNone (oSome (eVar 3))) (eSl (eVar 1) (oSome (eVar 3)) (oSome (e2 dAdd (eVar 3) (eC (.int 1)))))) (eSl (eVar 1) (oSome (eVar 3)) oNone))) sNx)
  (sRet (e2 dAdd (e2 dAdd (eSl (eVar 1) oNone (oSome (eVar 3))) (e1 mkT (aCons (eBor 0 Fr (aCons (e2 dIx (eVar 1) (eVar 3)) aNil)) aNil))) (eSl (eVar 1) (oSome (e2 dAdd (eVar 3) (eC (.int 1)))) oNone)))))) sNx)
  (sSeq (sAsg (e1 mkL (aCons (eC .none) (aCons (eC (.bool true)) (aCons (eC (.bool false)) (aCons (eC (.int 0)) (aCons (eC (.int 1)) (aCons (eC (.int 2)) (aCons (eC (.int 3)) (aCons (eC (.int 4)) (aCons (eC (.int 5)) (aCons (eC (.int 6)) (aCons (eC (.int 7)) (aCons (e1 dNeg (eC (.int 1))) (aCons (e2 iPow (eC (.int 10)) (eC (.int 30))) (aCons (eC (.str (Str.ofString "quiet"))) (aCons (eC (.str (Str.ofString "speaks"))) (aCons (eC (.str (Str.ofString "torn"))) (aCons (eC (.str (Str.ofString "whole"))) (aCons (eC (.str (Str.ofString "none"))) (aCons (eC (.str (Str.ofString ""))) aNil)))))))))))))))))))) (gName 2))
  (sSeq (sAsg (e2 dAdd (eVar 2) (e1 mkL (aCons (e1 mkT aNil) (aCons (e1 mkL aNil) (aCons (e1 mkT (aCons (eC (.int 1)) (aCons (eC (.int 1)) aNil))) (aCons (e1 mkT (aCons (eC (.int 2)) (aCons (eC (.int 2)) aNil))) (aCons (e1 mkT (aCons (eC (.int 4)) (aCons (eC (.int 2)) aNil))) (aCons (e1 mkT (aCons (eC (.int 2)) (aCons (eC (.int 4)) aNil))) (aCons (e1 mkT (aCons (eC (.int 6)) (aCons (eC (.int 6)) aNil))) (aCons (e1 mkT (aCons (eC (.int 0)) aNil)) (aCons (e1 mkT (aCons (eC (.str (Str.ofString "quiet"))) (aCons (eC (.int 0)) (aCons (eC (.str (Str.ofString "none"))) aNil)))) (aCons (e1 mkL (aCons (eC (.int 0)) aNil)) aNil)))))))))))) (gName 2))
  (sRet (e2 dIx (eVar 2) (eBor 0 F__law_pick (aCons (e1 fLen (aCons (eVar 2) aNil)) aNil)))))))
def F__law_bent : Nat → List D → List D → Option (D × List D)
  | 0 => fun _ _ => none
  | n + 1 => callB 5 2 (B__law_bent (F__law_bent n))
/-- look_at_stand(plan, stand); slots: 0 plan 1 stand -/
def B_look_at_stand : MS :=
  (sIf (e1 tNotB (e1 asB (e1 F_fits (aCons (eVar 0) (aCons (eVar 1) aNil))))) sNever sNx)
def F_look_at_stand : List D → Option D := callD 2 2 (B_look_at_stand)
/-- ways_of(habit, part); slots: 0 habit 1 part 2 sentence 3 wait 4 stops 5 eager 6 no 7 yes -/
def B_ways_of : MS :=
  (sSeq (sAsg (eVar 0) (gTup (gsCons (gName 2) (gsCons (gName 3) (gsCons (gName 4) (gsCons (gName 5) gsNil))))))
  (sSeq (sIf (e1 asB (e2 dEq (e2 dIx (eVar 1) (eC (.int 0))) (eC c_QUIET))) (sPar [6, 7] (aCons (eOr (e1 dNot (eVar 5)) (e2 dLt (e2 dIx (eVar 1) (eC (.int 1))) (e2 dIx (eVar 3) (eC (.int 1))))) (aCons (e2 dGe (e2 dIx (eVar 1) (eC (.int 1))) (e2 dIx (eVar 3) (eC (.int 0)))) aNil))) (sPar [6, 7] (aCons (e2 dLt (e2 dAdd (e2 dIx (eVar 1) (eC (.int 1))) (eC (.int 1))) (e2 dIx (eVar 2) (eC (.int 1)))) (aCons (e2 dGe (e2 dAdd (e2 dIx (eVar 1) (eC (.int 1))) (eC (.int 1))) (e2 dIx (eVar 2) (eC (.int 0)))) aNil))))
  (sRet (e2 dAdd (e2 dMul (e1 mkL (aCons (eC (.bool false)) aNil)) (e1 fInt (aCons (eVar 6) aNil))) (e2 dMul (e1 mkL (aCons (eC (.bool true)) aNil)) (e1 fInt (aCons (eVar 7) aNil)))))))
def F_ways_of : List D → Option D := callD 8 2 (B_ways_of)
/-- choices_of(plan, stand); slots: 0 plan 1 stand 2 first 3 second 4 one 5 other 6 habit 7 part -/
def B_choices_of : MS :=
  (sSeq (sAsg (eLc (e1 iZ (aCons (e2 dIx (eVar 0) (eC (.int 0))) (aCons (e2 dIx (eVar 1) (eC (.int 0))) aNil))) (gTup (gsCons (gName 6) (gsCons (gName 7) gsNil))) tYesM (e1 F_ways_of (aCons (eVar 6) (aCons (eVar 7) aNil))) [6, 7]) (gLst (gsCons (gName 2) (gsCons (gName 3) gsNil))))
  (sRet (eLc2 (e1 iSeq (eVar 2)) (gName 4) (e1 iSeq (eVar 3)) (gName 5) (e1 mkT (aCons (eVar 4) (aCons (eVar 5) aNil))) [4, 5] [5])))
def F_choices_of : List D → Option D := callD 8 2 (B_choices_of)
/-- sign_of(part, chosen); slots: 0 part 1 chosen -/
def B_sign_of : MS :=
  (sSeq (sIf (e1 asB (e2 dEq (e2 dIx (eVar 0) (eC (.int 0))) (eC c_QUIET))) (sRet (e1 fInt (aCons (eVar 1) aNil))) sNx)
  (sRet (eIf (e1 asB (eVar 1)) (eC (.int 3)) (eC (.int 2)))))
def F_sign_of : List D → Option D := callD 2 2 (B_sign_of)
/-- signs_of(stand, choice); slots: 0 stand 1 choice 2 part 3 chosen -/
def B_signs_of : MS :=
  (sRet (e1 fTuple (aCons (eLc (e1 iZ (aCons (e2 dIx (eVar 0) (eC (.int 0))) (aCons (eVar 1) aNil))) (gTup (gsCons (gName 2) (gsCons (gName 3) gsNil))) tYesM (e1 F_sign_of (aCons (eVar 2) (aCons (eVar 3) aNil))) [2, 3]) aNil)))
def F_signs_of : List D → Option D := callD 4 2 (B_signs_of)
/-- heard_by(stand); slots: 0 stand -/
def B_heard_by : MS :=
  (sRet (e1 mkT (aCons (e2 dIx (e2 dIx (e2 dIx (eVar 0) (eC (.int 1))) (eC (.int 1))) (eC (.int 0))) (aCons (e2 dIx (e2 dIx (e2 dIx (eVar 0) (eC (.int 1))) (eC (.int 0))) (eC (.int 0))) aNil))))
def F_heard_by : List D → Option D := callD 1 1 (B_heard_by)
/-- hearing_of(before, said, heard); slots: 0 before 1 said 2 heard -/
def B_hearing_of : MS :=
  (sSeq (sIf (e1 asB (e2 dEq (eVar 2) (eC (.int 0)))) (sRet (eC (.str (Str.ofString "none")))) sNx)
  (sSeq (sIf (e1 asB (e2 dNe (eVar 1) (eC (.int 0)))) (sRet (eC (.str (Str.ofString "torn")))) sNx)
  (sSeq (sIf (e1 asB (e2 dEq (eVar 2) (eC (.int 1)))) (sRet (eC (.str (Str.ofString "whole")))) sNx)
  (sRet (eIf (e1 asB (e2 dEq (eVar 0) (eC (.str (Str.ofString "none"))))) (eC (.str (Str.ofString "torn"))) (eVar 0))))))
def F_hearing_of : List D → Option D := callD 3 3 (B_hearing_of)
/-- is_whole(part, said, heard); slots: 0 part 1 said 2 heard -/
def B_is_whole : MS :=
  (sRet (eAnd (e2 dEq (eVar 2) (eC (.int 3))) (e2 dEq (e1 F_hearing_of (aCons (e2 dIx (eVar 0) (eC (.int 2))) (aCons (eVar 1) (aCons (eVar 2) aNil)))) (eC (.str (Str.ofString "whole"))))))
def F_is_whole : List D → Option D := callD 3 3 (B_is_whole)
/-- talker_behind(habit, part, said, heard, over); slots: 0 habit 1 part 2 said 3 heard 4 over 5 hearing 6 sentence 7 wait 8 stops 9 eager -/
def B_talker_behind : MS :=
  (sSeq (sAsg (eVar 0) (gTup (gsCons (gName 6) (gsCons (gName 7) (gsCons (gName 8) (gsCons (gName 9) gsNil))))))
  (sSeq (sAsg (eIf (e1 asB (e2 dEq (eVar 3) (eC (.int 3)))) (eC (.str (Str.ofString "none"))) (e1 F_hearing_of (aCons (e2 dIx (eVar 1) (eC (.int 2))) (aCons (eVar 2) (aCons (eVar 3) aNil))))) (gName 5))
  (sSeq (sIf (e1 asB (e2 dNe (eVar 2) (eC (.int 0)))) (sSeq (sIf (tOrM (e1 asB (e2 dEq (eVar 2) (eC (.int 3)))) (tAndM (e1 asB (eVar 8)) (e1 asB (e2 dNe (eVar 3) (eC (.int 0)))))) (sRet (e1 mkT (aCons (eC c_QUIET) (aCons (eC (.int 0)) (aCons (eVar 5) aNil))))) sNx)
  (sRet (e1 mkT (aCons (eC c_SPEAKS) (aCons (eIf (e1 asB (e2 dEq (eVar 2) (eC (.int 1)))) (eC (.int 1)) (e2 dAdd (e2 dIx (eVar 1) (eC (.int 1))) (eC (.int 1)))) (aCons (eVar 5) aNil)))))) sNx)
  (sSeq (sIf (e1 asB (e2 dEq (eVar 3) (eC (.int 0)))) (sRet (e1 mkT (aCons (eC c_QUIET) (aCons (e1 fMin2 (aCons (e2 dIx (eVar 7) (eC (.int 1))) (aCons (e2 dAdd (e2 dIx (eVar 1) (eC (.int 1))) (eC (.int 1))) aNil))) (aCons (eVar 5) aNil))))) sNx)
  (sRet (e1 mkT (aCons (eC c_QUIET) (aCons (eIf (tAndM (e1 asB (eVar 4)) (e1 asB (e1 F_is_whole (aCons (eVar 1) (aCons (eVar 2) (aCons (eVar 3) aNil)))))) (e2 dIx (eVar 7) (eC (.int 0))) (eC (.int 0))) (aCons (eVar 5) aNil)))))))))
def F_talker_behind : List D → Option D := callD 10 5 (B_talker_behind)
/-- behind(plan, stand, choice); slots: 0 plan 1 stand 2 choice 3 number 4 said 5 heard 6 found 7 line 8 sign -/
def B_behind : MS :=
  (sSeq (sPar3O 4 5 6 (aCons (e1 F_signs_of (aCons (eVar 1) (aCons (eVar 2) aNil))) (aCons (e1 F_heard_by (aCons (eVar 1) aNil)) aNil)))
  (sSeq (sFor (e1 iR1 (aCons (eC (.int 2)) aNil)) (gName 3) (sApp 6 (e1 F_talker_behind (aCons (e2 dIx (e2 dIx (eVar 0) (eC (.int 0))) (eVar 3)) (aCons (e2 dIx (e2 dIx (eVar 1) (eC (.int 0))) (eVar 3)) (aCons (e2 dIx (eVar 4) (eVar 3)) (aCons (e2 dIx (eVar 5) (eVar 3)) (aCons (e2 dIx (eVar 0) (eC (.int 2))) aNil))))))))
  (sRet (e1 mkT (aCons (e1 fTuple (aCons (eTake 6) aNil)) (aCons (e1 fTuple (aCons (eLc (e1 iZ (aCons (e2 dIx (eVar 1) (eC (.int 1))) (aCons (eVar 4) aNil))) (gTup (gsCons (gName 7) (gsCons (gName 8) gsNil))) tYesM (e2 dAdd (eSl (eVar 7) (oSome (eC (.int 1))) oNone) (e1 mkT (aCons (eVar 8) aNil))) [7, 8]) aNil)) aNil))))))
def F_behind : List D → Option D := callD 9 3 (B_behind)
/-- whole_by(stand, choice); slots: 0 stand 1 choice 2 said 3 heard 4 number -/
def B_whole_by : MS :=
  (sSeq (sAsg (e1 mkT (aCons (e1 F_signs_of (aCons (eVar 0) (aCons (eVar 1) aNil))) (aCons (e1 F_heard_by (aCons (eVar 0) aNil)) aNil))) (gTup (gsCons (gName 2) (gsCons (gName 3) gsNil))))
  (sRet (e1 fTuple (aCons (eLc (e1 iSeq (e1 mkT (aCons (eC (.int 1)) (aCons (eC (.int 0)) aNil)))) (gName 4) (e1 asB (e1 F_is_whole (aCons (e2 dIx (e2 dIx (eVar 0) (eC (.int 0))) (eVar 4)) (aCons (e2 dIx (eVar 2) (eVar 4)) (aCons (e2 dIx (eVar 3) (eVar 4)) aNil))))) (e2 iSub (eC (.int 1)) (eVar 4)) [4]) aNil))))
def F_whole_by : List D → Option D := callD 5 2 (B_whole_by)
/-- is_like(value, some); slots: 0 value 1 some 2 part -/
def B_is_like : MS :=
  (sRet (eAnd (e1 (dIsi .tup) (eVar 0)) (eAnd (e1 fAll (aCons (eLc (e1 iSeq (eVar 0)) (gName 2) tYesM (e1 (dIsi .bool) (eVar 2)) [2]) aNil)) (e2 (dIn false) (eVar 0) (eVar 1)))))
def F_is_like : List D → Option D := callD 3 2 (B_is_like)
/-- stands_of(plan, stand, choices); slots: 0 plan 1 stand 2 choices 3 found 4 choice -/
def L_stands_of_0 : MS :=
  (sSeq (sIf (e1 tNotB (e1 asB (e1 F_is_like (aCons (eVar 4) (aCons (e1 F_choices_of (aCons (eVar 0) (aCons (eIxO 3 (e1 dNeg (eC (.int 1)))) aNil))) aNil))))) (sRet (eTake 3)) sNx)
  (sApp 3 (e1 F_behind (aCons (eVar 0) (aCons (eIxO 3 (e1 dNeg (eC (.int 1)))) (aCons (eVar 4) aNil))))))
def B_stands_of : MS :=
  (sSeq (sOwn 3 (aCons (eVar 1) aNil))
  (sSeq (sFor (e1 iSeq (eVar 2)) (gName 4) L_stands_of_0)
  (sRet (eTake 3))))
def F_stands_of : List D → Option D := callD 5 3 (B_stands_of)
/-- fits_run(plan, value); slots: 0 plan 1 value -/
def B_fits_run : MS :=
  (sSeq (sIf (tOrM (e1 tNotB (e1 asB (e1 (dIsi .tup) (eVar 1)))) (e1 asB (e2 dGt (e1 fLen (aCons (eVar 1) aNil)) (eC c_MOST_CHOICES)))) (sRet (eC (.bool false))) sNx)
  (sRet (e2 dEq (e1 fLen (aCons (e1 F_stands_of (aCons (eVar 0) (aCons (e1 F_begin_of (aCons (eVar 0) aNil)) (aCons (eVar 1) aNil)))) aNil)) (e2 dAdd (e1 fLen (aCons (eVar 1) aNil)) (eC (.int 1))))))
def F_fits_run : List D → Option D := callD 2 2 (B_fits_run)
/-- look_at_choice(plan, stand, choice); slots: 0 plan 1 stand 2 choice -/
def B_look_at_choice : MS :=
  (sIf (e1 tNotB (e1 asB (e1 F_is_like (aCons (eVar 2) (aCons (e1 F_choices_of (aCons (eVar 0) (aCons (eVar 1) aNil))) aNil))))) sNever sNx)
def F_look_at_choice : List D → Option D := callD 3 3 (B_look_at_choice)
/-- choices_at(plan, stand); slots: 0 plan 1 stand -/
def B_choices_at : MS :=
  (sSeq (sDrop (e1 F_look_at_plan (aCons (eVar 0) aNil)))
  (sSeq (sDrop (e1 F_look_at_stand (aCons (eVar 0) (aCons (eVar 1) aNil))))
  (sRet (e1 F_choices_of (aCons (eVar 0) (aCons (eVar 1) aNil))))))
def F_choices_at : List D → Option D := callD 2 2 (B_choices_at)
/-- said(plan, stand, choice); slots: 0 plan 1 stand 2 choice -/
def B_said : MS :=
  (sSeq (sDrop (e1 F_look_at_plan (aCons (eVar 0) aNil)))
  (sSeq (sDrop (e1 F_look_at_stand (aCons (eVar 0) (aCons (eVar 1) aNil))))
  (sSeq (sDrop (e1 F_look_at_choice (aCons (eVar 0) (aCons (eVar 1) (aCons (eVar 2) aNil)))))
  (sRet (e1 F_signs_of (aCons (eVar 1) (aCons (eVar 2) aNil)))))))
def F_said : List D → Option D := callD 3 3 (B_said)
/-- heard(plan, stand); slots: 0 plan 1 stand -/
def B_heard : MS :=
  (sSeq (sDrop (e1 F_look_at_plan (aCons (eVar 0) aNil)))
  (sSeq (sDrop (e1 F_look_at_stand (aCons (eVar 0) (aCons (eVar 1) aNil))))
  (sRet (e1 F_heard_by (aCons (eVar 1) aNil)))))
def F_heard : List D → Option D := callD 2 2 (B_heard)
/-- after(plan, stand, choice); slots: 0 plan 1 stand 2 choice -/
def B_after : MS :=
  (sSeq (sDrop (e1 F_look_at_plan (aCons (eVar 0) aNil)))
  (sSeq (sDrop (e1 F_look_at_stand (aCons (eVar 0) (aCons (eVar 1) aNil))))
  (sSeq (sDrop (e1 F_look_at_choice (aCons (eVar 0) (aCons (eVar 1) (aCons (eVar 2) aNil)))))
  (sRet (e1 F_behind (aCons (eVar 0) (aCons (eVar 1) (aCons (eVar 2) aNil))))))))
def F_after : List D → Option D := callD 3 3 (B_after)
/-- whole(plan, stand, choice); slots: 0 plan 1 stand 2 choice -/
def B_whole : MS :=
  (sSeq (sDrop (e1 F_look_at_plan (aCons (eVar 0) aNil)))
  (sSeq (sDrop (e1 F_look_at_stand (aCons (eVar 0) (aCons (eVar 1) aNil))))
  (sSeq (sDrop (e1 F_look_at_choice (aCons (eVar 0) (aCons (eVar 1) (aCons (eVar 2) aNil)))))
  (sRet (e1 F_whole_by (aCons (eVar 1) (aCons (eVar 2) aNil)))))))
def F_whole : List D → Option D := callD 3 3 (B_whole)
/-- is_run(plan, value); slots: 0 plan 1 value -/
def B_is_run : MS :=
  (sSeq (sDrop (e1 F_look_at_plan (aCons (eVar 0) aNil)))
  (sRet (e1 F_fits_run (aCons (eVar 0) (aCons (eVar 1) aNil)))))
def F_is_run : List D → Option D := callD 2 2 (B_is_run)
/-- stand_behind(plan, run); slots: 0 plan 1 run -/
def B_stand_behind : MS :=
  (sSeq (sDrop (e1 F_look_at_plan (aCons (eVar 0) aNil)))
  (sSeq (sIf (e1 tNotB (e1 asB (e1 F_fits_run (aCons (eVar 0) (aCons (eVar 1) aNil))))) sNever sNx)
  (sRet (e2 dIx (e1 F_stands_of (aCons (eVar 0) (aCons (e1 F_begin_of (aCons (eVar 0) aNil)) (aCons (eVar 1) aNil)))) (e1 dNeg (eC (.int 1)))))))
def F_stand_behind : List D → Option D := callD 2 2 (B_stand_behind)
/-- _law_any_part(spring, habit); slots: 0 spring 1 habit 2 got -/
def B__law_any_part : MS :=
  (sSeq (sAsg (e2 dIx (e1 mkL (aCons (eC (.str (Str.ofString "none"))) (aCons (eC (.str (Str.ofString "torn"))) (aCons (eC (.str (Str.ofString "whole"))) aNil)))) (eBor 0 F__law_pick (aCons (eC (.int 3)) aNil))) (gName 2))
  (sSeq (sIf (e1 asB (e2 dEq (eBor 0 F__law_pick (aCons (eC (.int 2)) aNil)) (eC (.int 0)))) (sRet (e1 mkT (aCons (eC (.str (Str.ofString "quiet"))) (aCons (eBor 0 F__law_pick (aCons (e2 dAdd (e2 dIx (e2 dIx (eVar 1) (eC (.int 1))) (eC (.int 1))) (eC (.int 1))) aNil)) (aCons (eVar 2) aNil))))) sNx)
  (sRet (e1 mkT (aCons (eC (.str (Str.ofString "speaks"))) (aCons (e2 dAdd (eC (.int 1)) (eBor 0 F__law_pick (aCons (e2 iSub (e2 dIx (e2 dIx (eVar 1) (eC (.int 0))) (eC (.int 1))) (eC (.int 1))) aNil))) (aCons (eVar 2) aNil)))))))
def F__law_any_part : List D → List D → Option (D × List D) := callB 3 2 (B__law_any_part)
end VS

namespace VS
open PySem PySem.Spec PyProof.Rows L2

/-! ### plain: places, lengths -/
theorem mkT_ok {ds : List D} (h : ds.length ≤ 100000) : mkT ds = some (.tuple ds) := if_pos h
theorem mkL_ok {ds : List D} (h : ds.length ≤ 100000) : mkL ds = some (.list ds) := if_pos h
theorem atI_nn {ds : List D} {d : D} {i : Int} (h0 : 0 ≤ i) (h : ds[i.toNat]? = some d) : atI ds i = some d := by
  have hl : i.toNat < ds.length := by
    rcases Nat.lt_or_ge i.toNat ds.length with h1 | h1
    · exact h1
    · rw [List.getElem?_eq_none h1] at h; cases h
  unfold atI ixN
  rw [if_pos h0, if_pos (by omega)]
  exact h
theorem orE_some {f f' : D → D → Option D} {x y z : D} (h : f x y = some z) : orE f f' x y = some z := by unfold orE; rw [h]
theorem orE_none {f f' : D → D → Option D} {x y : D} (h : f x y = none) : orE f f' x y = f' x y := by unfold orE; rw [h]
theorem ixT {ds : List D} {d : D} {i : Int} (h0 : 0 ≤ i) (h : ds[i.toNat]? = some d) : dIx (.tuple ds) (.int i) = some d := orE_some (atI_nn h0 h)
theorem ixL {ds : List D} {d : D} {i : Int} (h0 : 0 ≤ i) (h : ds[i.toNat]? = some d) : dIx (.list ds) (.int i) = some d := (orE_none rfl).trans (orE_some (atI_nn h0 h))
@[simp] theorem ixT0 {a : D} {l : List D} : dIx (.tuple (a :: l)) (.int 0) = some a := ixT (by decide) rfl
@[simp] theorem ixT1 {a b : D} {l : List D} : dIx (.tuple (a :: b :: l)) (.int 1) = some b := ixT (by decide) rfl
@[simp] theorem ixT2 {a b c : D} {l : List D} : dIx (.tuple (a :: b :: c :: l)) (.int 2) = some c := ixT (by decide) rfl
@[simp] theorem ixT3 {a b c d : D} {l : List D} : dIx (.tuple (a :: b :: c :: d :: l)) (.int 3) = some d := ixT (by decide) rfl
@[simp] theorem ixL0 {a : D} {l : List D} : dIx (.list (a :: l)) (.int 0) = some a := ixL (by decide) rfl
@[simp] theorem ixL1 {a b : D} {l : List D} : dIx (.list (a :: b :: l)) (.int 1) = some b := ixL (by decide) rfl
@[simp] theorem ixL2 {a b c : D} {l : List D} : dIx (.list (a :: b :: c :: l)) (.int 2) = some c := ixL (by decide) rfl
@[simp] theorem ixL3 {a b c d : D} {l : List D} : dIx (.list (a :: b :: c :: d :: l)) (.int 3) = some d := ixL (by decide) rfl
@[simp] theorem ixL4 {a b c d e : D} {l : List D} : dIx (.list (a :: b :: c :: d :: e :: l)) (.int 4) = some e := ixL (by decide) rfl
@[simp] theorem lenT {l : List D} : fLen [.tuple l] = some (.int l.length) := rfl
@[simp] theorem lenL {l : List D} : fLen [.list l] = some (.int l.length) := rfl
@[simp] theorem addI {i j : Int} : dAdd (.int i) (.int j) = some (.int (i + j)) := rfl
@[simp] theorem subI {i j : Int} : iSub (.int i) (.int j) = some (.int (i - j)) := rfl
@[simp] theorem eqI {i j : Int} : dEq (.int i) (.int j) = some (.bool (decide (i = j))) := by simp [dEq, okEq, PyData.canLay0, PyData.depth, PyData.eqv]; exact Bool.beq_eq_decide_eq _ _
@[simp] theorem neI {i j : Int} : dNe (.int i) (.int j) = some (.bool (!decide (i = j))) := by simp [dNe, okEq, PyData.canLay0, PyData.depth, PyData.eqv]; exact Bool.beq_eq_decide_eq _ _
@[simp] theorem leI {i j : Int} : dLe (.int i) (.int j) = some (.bool (decide (i ≤ j))) := rfl
@[simp] theorem ltI {i j : Int} : dLt (.int i) (.int j) = some (.bool (decide (i < j))) := rfl
@[simp] theorem geI {i j : Int} : dGe (.int i) (.int j) = some (.bool (decide (j ≤ i))) := rfl
@[simp] theorem gtI {i j : Int} : dGt (.int i) (.int j) = some (.bool (decide (j < i))) := rfl
@[simp] theorem mkT0 : mkT [] = some (.tuple []) := rfl
@[simp] theorem mkT1 {a : D} : mkT [a] = some (.tuple [a]) := rfl
@[simp] theorem mkT2 {a b : D} : mkT [a, b] = some (.tuple [a, b]) := rfl
@[simp] theorem mkT3 {a b c : D} : mkT [a, b, c] = some (.tuple [a, b, c]) := rfl
@[simp] theorem mkT4 {a b c d : D} : mkT [a, b, c, d] = some (.tuple [a, b, c, d]) := rfl
@[simp] theorem mkL0 : mkL [] = some (.list []) := rfl
@[simp] theorem mkL1 {a : D} : mkL [a] = some (.list [a]) := rfl
@[simp] theorem mkL2 {a b : D} : mkL [a, b] = some (.list [a, b]) := rfl
@[simp] theorem mkL3 {a b c : D} : mkL [a, b, c] = some (.list [a, b, c]) := rfl
@[simp] theorem mkL4 {a b c d : D} : mkL [a, b, c, d] = some (.list [a, b, c, d]) := rfl
@[simp] theorem seqL {l : List D} : iSeq (.list l) = some l := rfl
@[simp] theorem seqT {l : List D} : iSeq (.tuple l) = some l := rfl
@[simp] theorem zT {l m : List D} : iZ [.tuple l, .tuple m] = some (zipD l m) := rfl
@[simp] theorem zL {l m : List D} : iZ [.list l, .list m] = some (zipD l m) := rfl
@[simp] theorem zip0 {m : List D} : zipD [] m = [] := rfl
@[simp] theorem zip1 {a : D} {m : List D} : zipD (a :: m) [] = [] := rfl
@[simp] theorem zip2 {a b : D} {l m : List D} : zipD (a :: l) (b :: m) = .tuple [a, b] :: zipD l m := rfl
theorem mulI {i j : Int} (h : (-(2 ^ 64) < i ∧ i < 2 ^ 64) ∨ (-(2 ^ 64) < j ∧ j < 2 ^ 64)) : dMul (.int i) (.int j) = some (.int (i * j)) := orE_some (if_pos (by omega))

@[simp] theorem is_int_none : Ty5.is .int .none = false := rfl
@[simp] theorem is_int_bool {b : Bool} : Ty5.is .int (.bool b) = true := rfl
@[simp] theorem is_int_int {i : Int} : Ty5.is .int (.int i) = true := rfl
@[simp] theorem is_int_str {x : Str} : Ty5.is .int (.str x) = false := rfl
@[simp] theorem is_int_list {l : List D} : Ty5.is .int (.list l) = false := rfl
@[simp] theorem is_int_tuple {l : List D} : Ty5.is .int (.tuple l) = false := rfl
@[simp] theorem is_int_dict {l : List (D × D)} : Ty5.is .int (.dict l) = false := rfl
@[simp] theorem is_bool_none : Ty5.is .bool .none = false := rfl
@[simp] theorem is_bool_bool {b : Bool} : Ty5.is .bool (.bool b) = true := rfl
@[simp] theorem is_bool_int {i : Int} : Ty5.is .bool (.int i) = false := rfl
@[simp] theorem is_bool_str {x : Str} : Ty5.is .bool (.str x) = false := rfl
@[simp] theorem is_bool_list {l : List D} : Ty5.is .bool (.list l) = false := rfl
@[simp] theorem is_bool_tuple {l : List D} : Ty5.is .bool (.tuple l) = false := rfl
@[simp] theorem is_bool_dict {l : List (D × D)} : Ty5.is .bool (.dict l) = false := rfl
@[simp] theorem is_tup_none : Ty5.is .tup .none = false := rfl
@[simp] theorem is_tup_bool {b : Bool} : Ty5.is .tup (.bool b) = false := rfl
@[simp] theorem is_tup_int {i : Int} : Ty5.is .tup (.int i) = false := rfl
@[simp] theorem is_tup_str {x : Str} : Ty5.is .tup (.str x) = false := rfl
@[simp] theorem is_tup_list {l : List D} : Ty5.is .tup (.list l) = false := rfl
@[simp] theorem is_tup_tuple {l : List D} : Ty5.is .tup (.tuple l) = true := rfl
@[simp] theorem is_tup_dict {l : List (D × D)} : Ty5.is .tup (.dict l) = false := rfl
@[simp] theorem is_lst_none : Ty5.is .lst .none = false := rfl
@[simp] theorem is_lst_bool {b : Bool} : Ty5.is .lst (.bool b) = false := rfl
@[simp] theorem is_lst_int {i : Int} : Ty5.is .lst (.int i) = false := rfl
@[simp] theorem is_lst_str {x : Str} : Ty5.is .lst (.str x) = false := rfl
@[simp] theorem is_lst_list {l : List D} : Ty5.is .lst (.list l) = true := rfl
@[simp] theorem is_lst_tuple {l : List D} : Ty5.is .lst (.tuple l) = false := rfl
@[simp] theorem is_lst_dict {l : List (D × D)} : Ty5.is .lst (.dict l) = false := rfl
@[simp] theorem is_str_none : Ty5.is .str .none = false := rfl
@[simp] theorem is_str_bool {b : Bool} : Ty5.is .str (.bool b) = false := rfl
@[simp] theorem is_str_int {i : Int} : Ty5.is .str (.int i) = false := rfl
@[simp] theorem is_str_str {x : Str} : Ty5.is .str (.str x) = true := rfl
@[simp] theorem is_str_list {l : List D} : Ty5.is .str (.list l) = false := rfl
@[simp] theorem is_str_tuple {l : List D} : Ty5.is .str (.tuple l) = false := rfl
@[simp] theorem is_str_dict {l : List (D × D)} : Ty5.is .str (.dict l) = false := rfl
/-! ### plain: what is good -/
def inB (lo hi : Int) : D → Bool
  | .int i => decide (lo ≤ i) && decide (i ≤ hi)
  | _ => false
@[simp] theorem inB_int {lo hi i : Int} : inB lo hi (.int i) = (decide (lo ≤ i) && decide (i ≤ hi)) := rfl
@[simp] theorem is_within_eq (v : D) (lo hi : Int) : F_is_within [v, .int lo, .int hi] = some (.bool (inB lo hi v)) := by
  cases v <;> simp [F_is_within, B_is_within, inB, callD, callB, callO, args0, sSeq, sIf, sRet, sRetN, sRetO, sDrop, sAsg, sPar, sNx, sBk, sCt, sNever, eVar, eC, e1, e2, eIf, asB, eAnd, eOr, tAndM, tOrM, dNot, tNotB, aNil, aCons, mkT_ok, mkL_ok, gName, gsNil, gsCons, gTup, gLst, eChain, oNone, oSome, eSl, dIsi, dIsi2, tYesM]
  rename_i i
  by_cases h : lo ≤ i <;> simp [h]
@[simp] theorem law_int_eq (v : D) (lo hi : Int) : F__law_int [v, .int lo, .int hi] = some (.bool (inB lo hi v)) := is_within_eq v lo hi

def spanB (lo hi : Int) : D → Bool
  | .tuple [a, b] => inB lo hi a && (match a with | .int i => inB i hi b | _ => false)
  | _ => false
def len2 (ds : List D) : (∃ a b, ds = [a, b]) ∨ ((ds.length : Int) ≠ 2 ∧ ds.length ≠ 2) := by
  match ds with
  | [a, b] => exact .inl ⟨a, b, rfl⟩
  | [] => exact .inr (by simp)
  | [_] => exact .inr (by simp)
  | _ :: _ :: _ :: _ => exact .inr (by simp; omega)
def len3 (ds : List D) : (∃ a b c, ds = [a, b, c]) ∨ ((ds.length : Int) ≠ 3 ∧ ds.length ≠ 3) := by
  match ds with
  | [a, b, c] => exact .inl ⟨a, b, c, rfl⟩
  | [] => exact .inr (by simp)
  | [_] => exact .inr (by simp)
  | [_, _] => exact .inr (by simp)
  | _ :: _ :: _ :: _ :: _ => exact .inr (by simp; omega)
def len4 (ds : List D) : (∃ a b c d, ds = [a, b, c, d]) ∨ ((ds.length : Int) ≠ 4 ∧ ds.length ≠ 4) := by
  match ds with
  | [a, b, c, d] => exact .inl ⟨a, b, c, d, rfl⟩
  | [] => exact .inr (by simp)
  | [_] => exact .inr (by simp)
  | [_, _] => exact .inr (by simp)
  | [_, _, _] => exact .inr (by simp)
  | _ :: _ :: _ :: _ :: _ :: _ => exact .inr (by simp; omega)
@[simp] theorem spanB_len {lo hi : Int} {ds : List D} (h : ds.length ≠ 2) : spanB lo hi (.tuple ds) = false := by
  unfold spanB; split
  · rename_i a b e; cases e; exact absurd rfl h
  · rfl
@[simp] theorem is_span_eq (v : D) (lo hi : Int) : F_is_span [v, .int lo, .int hi] = some (.bool (spanB lo hi v)) := by
  cases v with
  | tuple ds =>
    rcases len2 ds with ⟨a, b, rfl⟩ | ⟨h, h'⟩
    · cases a <;> simp [F_is_span, B_is_span, spanB, callD, callB, callO, args0, sSeq, sIf, sRet, sRetN, sRetO, sDrop, sAsg, sPar, sNx, sBk, sCt, sNever, eVar, eC, e1, e2, eIf, asB, eAnd, eOr, tAndM, tOrM, dNot, tNotB, aNil, aCons, mkT_ok, mkL_ok, gName, gsNil, gsCons, gTup, gLst, eChain, oNone, oSome, eSl, dIsi, dIsi2, tYesM, inB]
      rename_i i
      by_cases h : lo ≤ i <;> by_cases h2 : i ≤ hi <;> simp [h, h2]
      cases b <;> rfl
    · simp [F_is_span, B_is_span, callD, callB, callO, args0, sSeq, sIf, sRet, sRetN, sRetO, sDrop, sAsg, sPar, sNx, sBk, sCt, sNever, eVar, eC, e1, e2, eIf, asB, eAnd, eOr, tAndM, tOrM, dNot, tNotB, aNil, aCons, mkT_ok, mkL_ok, gName, gsNil, gsCons, gTup, gLst, eChain, oNone, oSome, eSl, dIsi, dIsi2, tYesM, h, h']
  | _ => simp [F_is_span, B_is_span, spanB, callD, callB, callO, args0, sSeq, sIf, sRet, sRetN, sRetO, sDrop, sAsg, sPar, sNx, sBk, sCt, sNever, eVar, eC, e1, e2, eIf, asB, eAnd, eOr, tAndM, tOrM, dNot, tNotB, aNil, aCons, mkT_ok, mkL_ok, gName, gsNil, gsCons, gTup, gLst, eChain, oNone, oSome, eSl, dIsi, dIsi2, tYesM]
abbrev isB (d : D) : Bool := Ty5.is .bool d
def habB : D → Bool
  | .tuple [s, w, x, y] => spanB 2 4 s && spanB 1 6 w && isB x && isB y
  | _ => false
@[simp] theorem habB_len {ds : List D} (h : ds.length ≠ 4) : habB (.tuple ds) = false := by
  unfold habB; split
  · rename_i a b c d e; cases e; exact absurd rfl h
  · rfl
def isN (n : Int) : D → Bool
  | .tuple ds => decide ((ds.length : Int) = n)
  | _ => false
@[simp] theorem law_made_eq (v : D) (n : Int) : F__law_made [v, .int n] = some (.bool (isN n v)) := by
  cases v <;> simp [F__law_made, B__law_made, isN, callD, callB, callO, args0, sSeq, sIf, sRet, sRetN, sRetO, sDrop, sAsg, sPar, sNx, sBk, sCt, sNever, eVar, eC, e1, e2, eIf, asB, eAnd, eOr, tAndM, tOrM, dNot, tNotB, aNil, aCons, mkT_ok, mkL_ok, gName, gsNil, gsCons, gTup, gLst, eChain, oNone, oSome, eSl, dIsi, dIsi2, tYesM]
theorem is_habit_eq (v : D) : F_is_habit [v] = some (.bool (habB v)) := by
  cases v with
  | tuple ds =>
    rcases len4 ds with ⟨a, b, c, d, rfl⟩ | ⟨h, h'⟩
    · cases h1 : spanB 2 4 a <;> cases h2 : spanB 1 6 b <;> cases h3 : isB c <;> simp [F_is_habit, B_is_habit, habB, callD, callB, callO, args0, sSeq, sIf, sRet, sRetN, sRetO, sDrop, sAsg, sPar, sNx, sBk, sCt, sNever, eVar, eC, e1, e2, eIf, asB, eAnd, eOr, tAndM, tOrM, dNot, tNotB, aNil, aCons, mkT_ok, mkL_ok, gName, gsNil, gsCons, gTup, gLst, eChain, oNone, oSome, eSl, dIsi, dIsi2, tYesM, h1, h2, h3]
    · simp [F_is_habit, B_is_habit, callD, callB, callO, args0, sSeq, sIf, sRet, sRetN, sRetO, sDrop, sAsg, sPar, sNx, sBk, sCt, sNever, eVar, eC, e1, e2, eIf, asB, eAnd, eOr, tAndM, tOrM, dNot, tNotB, aNil, aCons, mkT_ok, mkL_ok, gName, gsNil, gsCons, gTup, gLst, eChain, oNone, oSome, eSl, dIsi, dIsi2, tYesM, h, h']
  | _ => simp [F_is_habit, B_is_habit, habB, callD, callB, callO, args0, sSeq, sIf, sRet, sRetN, sRetO, sDrop, sAsg, sPar, sNx, sBk, sCt, sNever, eVar, eC, e1, e2, eIf, asB, eAnd, eOr, tAndM, tOrM, dNot, tNotB, aNil, aCons, mkT_ok, mkL_ok, gName, gsNil, gsCons, gTup, gLst, eChain, oNone, oSome, eSl, dIsi, dIsi2, tYesM]
theorem spanB_iff {lo hi : Int} {v : D} : spanB lo hi v = true ↔ ∃ i j, v = .tuple [.int i, .int j] ∧ lo ≤ i ∧ i ≤ hi ∧ i ≤ j ∧ j ≤ hi := by
  constructor
  · intro h
    unfold spanB at h
    split at h
    · rename_i a b
      cases a <;> simp [inB] at h
      rename_i i
      cases b <;> simp at h
      exact ⟨_, _, rfl, h.1.1, h.1.2, h.2.1, h.2.2⟩
    · cases h
  · rintro ⟨i, j, rfl, h1, h2, h3, h4⟩
    simp [spanB, h1, h2, h3, h4]
@[simp] theorem isN2 {a b : D} : isN 2 (.tuple [a, b]) = true := rfl
@[simp] theorem isN3 {a b c : D} : isN 3 (.tuple [a, b, c]) = true := rfl
@[simp] theorem isN4 {a b c d : D} : isN 4 (.tuple [a, b, c, d]) = true := rfl
theorem isN2_no {v : D} (h : isN 2 v = false) {lo hi : Int} : spanB lo hi v = false := by
  cases v with
  | tuple ds =>
    simp [isN] at h
    exact spanB_len (by omega)
  | _ => rfl
theorem isN2_or (v : D) : (∃ a b, v = .tuple [a, b]) ∨ isN 2 v = false := by
  cases v with
  | tuple ds =>
    rcases len2 ds with ⟨a, b, rfl⟩ | ⟨h, h'⟩
    · exact .inl ⟨a, b, rfl⟩
    · exact .inr (by simp [isN, h])
  | _ => exact .inr rfl
theorem isN3_or (v : D) : (∃ a b c, v = .tuple [a, b, c]) ∨ isN 3 v = false := by
  cases v with
  | tuple ds =>
    rcases len3 ds with ⟨a, b, c, rfl⟩ | ⟨h, h'⟩
    · exact .inl ⟨a, b, c, rfl⟩
    · exact .inr (by simp [isN, h])
  | _ => exact .inr rfl
theorem isN4_or (v : D) : (∃ a b c d, v = .tuple [a, b, c, d]) ∨ isN 4 v = false := by
  cases v with
  | tuple ds =>
    rcases len4 ds with ⟨a, b, c, d, rfl⟩ | ⟨h, h'⟩
    · exact .inl ⟨a, b, c, d, rfl⟩
    · exact .inr (by simp [isN, h])
  | _ => exact .inr rfl
theorem span_cases (lo hi : Int) (v : D) : isN 2 v = false ∨ ∃ a b, v = .tuple [a, b] ∧ spanB lo hi v = (inB lo hi a && (match a with | .int i => inB i hi b | _ => false)) := by
  rcases isN2_or v with ⟨a, b, rfl⟩ | h
  · exact .inr ⟨a, b, rfl, rfl⟩
  · exact .inl h
theorem inB_some {lo hi : Int} {v : D} (h : inB lo hi v = true) : ∃ i, v = .int i ∧ lo ≤ i ∧ i ≤ hi := by
  cases v <;> simp [inB] at h
  exact ⟨_, rfl, h.1, h.2⟩
theorem spanB_t {lo hi : Int} {a b : D} : spanB lo hi (.tuple [a, b]) = (inB lo hi a && (match a with | .int i => inB i hi b | _ => false)) := rfl
theorem law_good_habit_eq (v : D) : F__law_good_habit [v] = some (.bool (habB v)) := by
  rcases isN4_or v with ⟨a, b, c, d, rfl⟩ | h
  · cases hc : isB c
    · simp [F__law_good_habit, B__law_good_habit, habB, callD, callB, callO, args0, sSeq, sIf, sRet, sRetN, sRetO, sDrop, sAsg, sPar, sNx, sBk, sCt, sNever, eVar, eC, e1, e2, eIf, asB, eAnd, eOr, tAndM, tOrM, dNot, tNotB, aNil, aCons, mkT_ok, mkL_ok, gName, gsNil, gsCons, gTup, gLst, eChain, oNone, oSome, eSl, dIsi, dIsi2, tYesM, hc]
    cases hd : isB d
    · simp [F__law_good_habit, B__law_good_habit, habB, callD, callB, callO, args0, sSeq, sIf, sRet, sRetN, sRetO, sDrop, sAsg, sPar, sNx, sBk, sCt, sNever, eVar, eC, e1, e2, eIf, asB, eAnd, eOr, tAndM, tOrM, dNot, tNotB, aNil, aCons, mkT_ok, mkL_ok, gName, gsNil, gsCons, gTup, gLst, eChain, oNone, oSome, eSl, dIsi, dIsi2, tYesM, hc, hd]
    rcases isN2_or a with ⟨a0, a1, rfl⟩ | ha
    · rcases isN2_or b with ⟨b0, b1, rfl⟩ | hb
      · cases h1 : inB 2 4 a0
        · simp [F__law_good_habit, B__law_good_habit, habB, callD, callB, callO, args0, sSeq, sIf, sRet, sRetN, sRetO, sDrop, sAsg, sPar, sNx, sBk, sCt, sNever, eVar, eC, e1, e2, eIf, asB, eAnd, eOr, tAndM, tOrM, dNot, tNotB, aNil, aCons, mkT_ok, mkL_ok, gName, gsNil, gsCons, gTup, gLst, eChain, oNone, oSome, eSl, dIsi, dIsi2, tYesM, sFor, forGo, hc, hd, h1, spanB_t]
        · obtain ⟨i, rfl, hi1, hi2⟩ := inB_some h1
          cases h2 : inB i 4 a1
          · simp [F__law_good_habit, B__law_good_habit, habB, callD, callB, callO, args0, sSeq, sIf, sRet, sRetN, sRetO, sDrop, sAsg, sPar, sNx, sBk, sCt, sNever, eVar, eC, e1, e2, eIf, asB, eAnd, eOr, tAndM, tOrM, dNot, tNotB, aNil, aCons, mkT_ok, mkL_ok, gName, gsNil, gsCons, gTup, gLst, eChain, oNone, oSome, eSl, dIsi, dIsi2, tYesM, sFor, forGo, hc, hd, hi1, hi2, h2, spanB_t]
          · cases h3 : inB 1 6 b0
            · simp [F__law_good_habit, B__law_good_habit, habB, callD, callB, callO, args0, sSeq, sIf, sRet, sRetN, sRetO, sDrop, sAsg, sPar, sNx, sBk, sCt, sNever, eVar, eC, e1, e2, eIf, asB, eAnd, eOr, tAndM, tOrM, dNot, tNotB, aNil, aCons, mkT_ok, mkL_ok, gName, gsNil, gsCons, gTup, gLst, eChain, oNone, oSome, eSl, dIsi, dIsi2, tYesM, sFor, forGo, hc, hd, hi1, hi2, h2, h3, spanB_t]
            · obtain ⟨j, rfl, hj1, hj2⟩ := inB_some h3
              cases h4 : inB j 6 b1 <;> simp [F__law_good_habit, B__law_good_habit, habB, callD, callB, callO, args0, sSeq, sIf, sRet, sRetN, sRetO, sDrop, sAsg, sPar, sNx, sBk, sCt, sNever, eVar, eC, e1, e2, eIf, asB, eAnd, eOr, tAndM, tOrM, dNot, tNotB, aNil, aCons, mkT_ok, mkL_ok, gName, gsNil, gsCons, gTup, gLst, eChain, oNone, oSome, eSl, dIsi, dIsi2, tYesM, sFor, forGo, hc, hd, hi1, hi2, h2, hj1, hj2, h4, spanB_t]
      · cases h1 : inB 2 4 a0
        · simp [F__law_good_habit, B__law_good_habit, habB, callD, callB, callO, args0, sSeq, sIf, sRet, sRetN, sRetO, sDrop, sAsg, sPar, sNx, sBk, sCt, sNever, eVar, eC, e1, e2, eIf, asB, eAnd, eOr, tAndM, tOrM, dNot, tNotB, aNil, aCons, mkT_ok, mkL_ok, gName, gsNil, gsCons, gTup, gLst, eChain, oNone, oSome, eSl, dIsi, dIsi2, tYesM, sFor, forGo, hc, hd, h1, spanB_t]
        · obtain ⟨i, rfl, hi1, hi2⟩ := inB_some h1
          cases h2 : inB i 4 a1 <;> simp [F__law_good_habit, B__law_good_habit, habB, callD, callB, callO, args0, sSeq, sIf, sRet, sRetN, sRetO, sDrop, sAsg, sPar, sNx, sBk, sCt, sNever, eVar, eC, e1, e2, eIf, asB, eAnd, eOr, tAndM, tOrM, dNot, tNotB, aNil, aCons, mkT_ok, mkL_ok, gName, gsNil, gsCons, gTup, gLst, eChain, oNone, oSome, eSl, dIsi, dIsi2, tYesM, sFor, forGo, hc, hd, hi1, hi2, h2, spanB_t, hb, isN2_no hb]
    · simp [F__law_good_habit, B__law_good_habit, habB, callD, callB, callO, args0, sSeq, sIf, sRet, sRetN, sRetO, sDrop, sAsg, sPar, sNx, sBk, sCt, sNever, eVar, eC, e1, e2, eIf, asB, eAnd, eOr, tAndM, tOrM, dNot, tNotB, aNil, aCons, mkT_ok, mkL_ok, gName, gsNil, gsCons, gTup, gLst, eChain, oNone, oSome, eSl, dIsi, dIsi2, tYesM, sFor, forGo, hc, hd, ha, isN2_no ha]
  · have : habB v = false := by
      cases v with
      | tuple ds => simp [isN] at h; exact habB_len (by omega)
      | _ => rfl
    simp [F__law_good_habit, B__law_good_habit, callD, callB, callO, args0, sSeq, sIf, sRet, sRetN, sRetO, sDrop, sAsg, sPar, sNx, sBk, sCt, sNever, eVar, eC, e1, e2, eIf, asB, eAnd, eOr, tAndM, tOrM, dNot, tNotB, aNil, aCons, mkT_ok, mkL_ok, gName, gsNil, gsCons, gTup, gLst, eChain, oNone, oSome, eSl, dIsi, dIsi2, tYesM, h, this]
end VS

namespace VS
open PySem PySem.Spec PyProof.Rows L2

structure Hab where
  (s0 s1 w0 w1 : Int)
  (st eg : Bool)
structure Pln where
  (a b : Hab)
  (x y : Int)
  (ov : Bool)
def Hab.d (h : Hab) : D := .tuple [.tuple [.int h.s0, .int h.s1], .tuple [.int h.w0, .int h.w1], .bool h.st, .bool h.eg]
def Pln.d (p : Pln) : D := .tuple [.tuple [p.a.d, p.b.d], .tuple [.int p.x, .int p.y], .bool p.ov]
structure Hab.Ok (h : Hab) : Prop where
  a1 : 2 ≤ h.s0
  a2 : h.s0 ≤ h.s1
  a3 : h.s1 ≤ 4
  b1 : 1 ≤ h.w0
  b2 : h.w0 ≤ h.w1
  b3 : h.w1 ≤ 6
def Pln.size (p : Pln) : Int := 3 * (p.a.w1 + p.a.s1 + 1) * (2 * p.x + 1) * 3 * (p.b.w1 + p.b.s1 + 1) * (2 * p.y + 1)
structure Pln.Sh (p : Pln) : Prop where
  a : p.a.Ok
  b : p.b.Ok
  x1 : 1 ≤ p.x
  x2 : p.x ≤ 3
  y1 : 1 ≤ p.y
  y2 : p.y ≤ 3
structure Pln.Ok (p : Pln) : Prop extends Pln.Sh p where
  size : p.size ≤ 10000
theorem habB_iff {v : D} : habB v = true ↔ ∃ h : Hab, h.Ok ∧ v = h.d := by
  constructor
  · intro q
    unfold habB at q
    split at q
    · rename_i a b c d
      simp only [Bool.and_eq_true] at q
      obtain ⟨⟨⟨q1, q2⟩, q3⟩, q4⟩ := q
      obtain ⟨i, j, rfl, h1⟩ := spanB_iff.mp q1
      obtain ⟨k, l, rfl, h2⟩ := spanB_iff.mp q2
      cases c <;> simp at q3
      cases d <;> simp at q4
      exact ⟨⟨i, j, k, l, _, _⟩, ⟨h1.1, h1.2.2.1, h1.2.2.2, h2.1, h2.2.2.1, h2.2.2.2⟩, rfl⟩
    · cases q
  · rintro ⟨h, o, rfl⟩
    have h1 : spanB 2 4 (.tuple [.int h.s0, .int h.s1]) = true := spanB_iff.mpr ⟨_, _, rfl, o.a1, by have := o.a2; have := o.a3; omega, o.a2, o.a3⟩
    have h2 : spanB 1 6 (.tuple [.int h.w0, .int h.w1]) = true := spanB_iff.mpr ⟨_, _, rfl, o.b1, by have := o.b2; have := o.b3; omega, o.b2, o.b3⟩
    simp [habB, Hab.d, h1, h2]
@[simp] theorem hab_ok {h : Hab} (o : h.Ok) : habB h.d = true := habB_iff.mpr ⟨h, o, rfl⟩
theorem mulSmall {i j : Int} (h1 : 0 ≤ j) (h2 : j < 1000) : dMul (.int i) (.int j) = some (.int (i * j)) := mulI (.inr (by omega))
theorem mulSmallL {i j : Int} (h1 : 0 ≤ i) (h2 : i < 1000) : dMul (.int i) (.int j) = some (.int (i * j)) := mulI (.inl (by omega))
@[simp] theorem mul3 {i : Int} : dMul (.int i) (.int 3) = some (.int (i * 3)) := mulSmall (by decide) (by decide)
@[simp] theorem twoMul {i : Int} : dMul (.int 2) (.int i) = some (.int (2 * i)) := mulSmallL (by decide) (by decide)
theorem size_of_eq {p : Pln} (s : p.Sh) : F_size_of [p.d] = some (.int p.size) := by
  obtain ⟨⟨a1, a2, a3, b1, b2, b3⟩, ⟨c1, c2, c3, d1, d2, d3⟩, x1, x2, y1, y2⟩ := s
  have m1 : ∀ i, dMul (.int i) (.int (p.a.w1 + p.a.s1 + 1)) = some (.int (i * (p.a.w1 + p.a.s1 + 1))) := fun i => mulSmall (by omega) (by omega)
  have m2 : ∀ i, dMul (.int i) (.int (p.b.w1 + p.b.s1 + 1)) = some (.int (i * (p.b.w1 + p.b.s1 + 1))) := fun i => mulSmall (by omega) (by omega)
  have m3 : ∀ i, dMul (.int i) (.int (2 * p.x + 1)) = some (.int (i * (2 * p.x + 1))) := fun i => mulSmall (by omega) (by omega)
  have m4 : ∀ i, dMul (.int i) (.int (2 * p.y + 1)) = some (.int (i * (2 * p.y + 1))) := fun i => mulSmall (by omega) (by omega)
  simp [F_size_of, B_size_of, callD, callB, callO, args0, sSeq, sIf, sRet, sRetN, sRetO, sDrop, sAsg, sPar, sNx, sBk, sCt, sNever, eVar, eC, e1, e2, eIf, asB, eAnd, eOr, tAndM, tOrM, dNot, tNotB, aNil, aCons, mkT_ok, mkL_ok, gName, gsNil, gsCons, gTup, gLst, eChain, oNone, oSome, eSl, dIsi, dIsi2, tYesM, most, eLc, okW, isOl, lcGo, wipeR, restR, fAll, boolsD, sFor, forGo, Pln.d, Hab.d, Pln.size, m1, m2, m3, m4]
theorem law_size_eq {p : Pln} (s : p.Sh) : F__law_size [p.d] = some (.int p.size) := by
  obtain ⟨⟨a1, a2, a3, b1, b2, b3⟩, ⟨c1, c2, c3, d1, d2, d3⟩, x1, x2, y1, y2⟩ := s
  have m1 : ∀ i, dMul (.int i) (.int (p.a.s1 + p.a.w1 + 1)) = some (.int (i * (p.a.s1 + p.a.w1 + 1))) := fun i => mulSmall (by omega) (by omega)
  have m2 : ∀ i, dMul (.int i) (.int (p.b.s1 + p.b.w1 + 1)) = some (.int (i * (p.b.s1 + p.b.w1 + 1))) := fun i => mulSmall (by omega) (by omega)
  have m3 : ∀ i, dMul (.int i) (.int (1 + 2 * p.x)) = some (.int (i * (1 + 2 * p.x))) := fun i => mulSmall (by omega) (by omega)
  have m4 : ∀ i, dMul (.int i) (.int (1 + 2 * p.y)) = some (.int (i * (1 + 2 * p.y))) := fun i => mulSmall (by omega) (by omega)
  simp [F__law_size, B__law_size, callD, callB, callO, args0, sSeq, sIf, sRet, sRetN, sRetO, sDrop, sAsg, sPar, sNx, sBk, sCt, sNever, eVar, eC, e1, e2, eIf, asB, eAnd, eOr, tAndM, tOrM, dNot, tNotB, aNil, aCons, mkT_ok, mkL_ok, gName, gsNil, gsCons, gTup, gLst, eChain, oNone, oSome, eSl, dIsi, dIsi2, tYesM, most, eLc, okW, isOl, lcGo, wipeR, restR, fAll, boolsD, sFor, forGo, Pln.d, Hab.d, m1, m2, m3, m4]
  unfold Pln.size
  rw [Int.add_comm p.a.w1 p.a.s1, Int.add_comm p.b.w1 p.b.s1, Int.add_comm (2 * p.x) 1, Int.add_comm (2 * p.y) 1]
/-! ### plans -/
def planB (v : D) : Prop := ∃ p : Pln, p.Ok ∧ v = p.d
theorem both2 {v : D} : isN 2 v = false → (eAnd (e1 (dIsi .tup) (eC v)) (e2 dEq (e1 fLen (aCons (eC v) aNil)) (eC (.int 2)))) = eC (.bool false) := by
  intro h
  funext ρ
  cases v <;> simp [callD, callB, callO, args0, sSeq, sIf, sRet, sRetN, sRetO, sDrop, sAsg, sPar, sNx, sBk, sCt, sNever, eVar, eC, e1, e2, eIf, asB, eAnd, eOr, tAndM, tOrM, dNot, tNotB, aNil, aCons, mkT_ok, mkL_ok, gName, gsNil, gsCons, gTup, gLst, eChain, oNone, oSome, eSl, dIsi, dIsi2, tYesM] 
  simpa [isN] using h
@[simp] theorem cut2 {a b c : D} : dSl (.tuple [a, b, c]) none (some 2) = some (.tuple [a, b]) := rfl
theorem is_plan_no (v : D) (h : ¬ planB v) : F_is_plan [v] = some (.bool false) := by
  rcases isN3_or v with ⟨a, b, c, rfl⟩ | h3
  · cases hc : isB c
    · simp [F_is_plan, B_is_plan, callD, callB, callO, args0, sSeq, sIf, sRet, sRetN, sRetO, sDrop, sAsg, sPar, sNx, sBk, sCt, sNever, eVar, eC, e1, e2, eIf, asB, eAnd, eOr, tAndM, tOrM, dNot, tNotB, aNil, aCons, mkT_ok, mkL_ok, gName, gsNil, gsCons, gTup, gLst, eChain, oNone, oSome, eSl, dIsi, dIsi2, tYesM, most, eLc, okW, isOl, lcGo, wipeR, restR, fAll, boolsD, sFor, forGo, hc]
    · cases c <;> simp at hc
      rename_i ov
      rcases isN2_or a with ⟨h1, h2, rfl⟩ | ha
      · rcases isN2_or b with ⟨d1, d2, rfl⟩ | hb
        · cases hh1 : habB h1
          · cases hh2 : habB h2 <;> simp [F_is_plan, B_is_plan, callD, callB, callO, args0, sSeq, sIf, sRet, sRetN, sRetO, sDrop, sAsg, sPar, sNx, sBk, sCt, sNever, eVar, eC, e1, e2, eIf, asB, eAnd, eOr, tAndM, tOrM, dNot, tNotB, aNil, aCons, mkT_ok, mkL_ok, gName, gsNil, gsCons, gTup, gLst, eChain, oNone, oSome, eSl, dIsi, dIsi2, tYesM, most, eLc, okW, isOl, lcGo, wipeR, restR, fAll, boolsD, sFor, forGo, hh1, hh2, is_habit_eq]
          · cases hh2 : habB h2
            · simp [F_is_plan, B_is_plan, callD, callB, callO, args0, sSeq, sIf, sRet, sRetN, sRetO, sDrop, sAsg, sPar, sNx, sBk, sCt, sNever, eVar, eC, e1, e2, eIf, asB, eAnd, eOr, tAndM, tOrM, dNot, tNotB, aNil, aCons, mkT_ok, mkL_ok, gName, gsNil, gsCons, gTup, gLst, eChain, oNone, oSome, eSl, dIsi, dIsi2, tYesM, most, eLc, okW, isOl, lcGo, wipeR, restR, fAll, boolsD, sFor, forGo, hh1, hh2, is_habit_eq]
            · obtain ⟨p, po, rfl⟩ := habB_iff.mp hh1
              obtain ⟨q, qo, rfl⟩ := habB_iff.mp hh2
              cases hd1 : inB 1 3 d1
              · cases hd2 : inB 1 3 d2 <;> simp [F_is_plan, B_is_plan, callD, callB, callO, args0, sSeq, sIf, sRet, sRetN, sRetO, sDrop, sAsg, sPar, sNx, sBk, sCt, sNever, eVar, eC, e1, e2, eIf, asB, eAnd, eOr, tAndM, tOrM, dNot, tNotB, aNil, aCons, mkT_ok, mkL_ok, gName, gsNil, gsCons, gTup, gLst, eChain, oNone, oSome, eSl, dIsi, dIsi2, tYesM, most, eLc, okW, isOl, lcGo, wipeR, restR, fAll, boolsD, sFor, forGo, hh1, hh2, is_habit_eq, hd1, hd2]
              · cases hd2 : inB 1 3 d2
                · simp [F_is_plan, B_is_plan, callD, callB, callO, args0, sSeq, sIf, sRet, sRetN, sRetO, sDrop, sAsg, sPar, sNx, sBk, sCt, sNever, eVar, eC, e1, e2, eIf, asB, eAnd, eOr, tAndM, tOrM, dNot, tNotB, aNil, aCons, mkT_ok, mkL_ok, gName, gsNil, gsCons, gTup, gLst, eChain, oNone, oSome, eSl, dIsi, dIsi2, tYesM, most, eLc, okW, isOl, lcGo, wipeR, restR, fAll, boolsD, sFor, forGo, hh1, hh2, is_habit_eq, hd1, hd2]
                · obtain ⟨x, rfl, x1, x2⟩ := inB_some hd1
                  obtain ⟨y, rfl, y1, y2⟩ := inB_some hd2
                  have sh : Pln.Sh ⟨p, q, x, y, ov⟩ := ⟨po, qo, x1, x2, y1, y2⟩
                  have e := size_of_eq sh
                  have ng : ¬ (Pln.size ⟨p, q, x, y, ov⟩ ≤ 10000) := fun z => h ⟨_, ⟨sh, z⟩, rfl⟩
                  simp only [Pln.d] at e
                  simp [F_is_plan, B_is_plan, callD, callB, callO, args0, sSeq, sIf, sRet, sRetN, sRetO, sDrop, sAsg, sPar, sNx, sBk, sCt, sNever, eVar, eC, e1, e2, eIf, asB, eAnd, eOr, tAndM, tOrM, dNot, tNotB, aNil, aCons, mkT_ok, mkL_ok, gName, gsNil, gsCons, gTup, gLst, eChain, oNone, oSome, eSl, dIsi, dIsi2, tYesM, most, eLc, okW, isOl, lcGo, wipeR, restR, fAll, boolsD, sFor, forGo, hh1, hh2, is_habit_eq, x1, x2, y1, y2, e, c_MOST_SIZE, ng]
        · cases b with
          | tuple ds => 
            simp [isN] at hb
            simp [F_is_plan, B_is_plan, callD, callB, callO, args0, sSeq, sIf, sRet, sRetN, sRetO, sDrop, sAsg, sPar, sNx, sBk, sCt, sNever, eVar, eC, e1, e2, eIf, asB, eAnd, eOr, tAndM, tOrM, dNot, tNotB, aNil, aCons, mkT_ok, mkL_ok, gName, gsNil, gsCons, gTup, gLst, eChain, oNone, oSome, eSl, dIsi, dIsi2, tYesM, most, eLc, okW, isOl, lcGo, wipeR, restR, fAll, boolsD, sFor, forGo, hb]
          | _ => simp [F_is_plan, B_is_plan, callD, callB, callO, args0, sSeq, sIf, sRet, sRetN, sRetO, sDrop, sAsg, sPar, sNx, sBk, sCt, sNever, eVar, eC, e1, e2, eIf, asB, eAnd, eOr, tAndM, tOrM, dNot, tNotB, aNil, aCons, mkT_ok, mkL_ok, gName, gsNil, gsCons, gTup, gLst, eChain, oNone, oSome, eSl, dIsi, dIsi2, tYesM, most, eLc, okW, isOl, lcGo, wipeR, restR, fAll, boolsD, sFor, forGo]
      · have : ∀ ρ, lcGo (gName 1) tYesM (eAnd (e1 (dIsi .tup) (eVar 1)) (e2 dEq (e1 fLen (aCons (eVar 1) aNil)) (eC (.int 2)))) [1] [b] [some (.dat ρ), none, none, none] = some ([.bool (isN 2 b)], [some (.dat ρ), none, none, none]) := by
          intro ρ
          cases b <;> simp [callD, callB, callO, args0, sSeq, sIf, sRet, sRetN, sRetO, sDrop, sAsg, sPar, sNx, sBk, sCt, sNever, eVar, eC, e1, e2, eIf, asB, eAnd, eOr, tAndM, tOrM, dNot, tNotB, aNil, aCons, mkT_ok, mkL_ok, gName, gsNil, gsCons, gTup, gLst, eChain, oNone, oSome, eSl, dIsi, dIsi2, tYesM, most, eLc, okW, isOl, lcGo, wipeR, restR, fAll, boolsD, sFor, forGo, isN]
        cases a with
        | tuple ds => 
          simp [isN] at ha
          cases b <;> simp [F_is_plan, B_is_plan, callD, callB, callO, args0, sSeq, sIf, sRet, sRetN, sRetO, sDrop, sAsg, sPar, sNx, sBk, sCt, sNever, eVar, eC, e1, e2, eIf, asB, eAnd, eOr, tAndM, tOrM, dNot, tNotB, aNil, aCons, mkT_ok, mkL_ok, gName, gsNil, gsCons, gTup, gLst, eChain, oNone, oSome, eSl, dIsi, dIsi2, tYesM, most, eLc, okW, isOl, lcGo, wipeR, restR, fAll, boolsD, sFor, forGo, ha]
        | _ => cases b <;> simp [F_is_plan, B_is_plan, callD, callB, callO, args0, sSeq, sIf, sRet, sRetN, sRetO, sDrop, sAsg, sPar, sNx, sBk, sCt, sNever, eVar, eC, e1, e2, eIf, asB, eAnd, eOr, tAndM, tOrM, dNot, tNotB, aNil, aCons, mkT_ok, mkL_ok, gName, gsNil, gsCons, gTup, gLst, eChain, oNone, oSome, eSl, dIsi, dIsi2, tYesM, most, eLc, okW, isOl, lcGo, wipeR, restR, fAll, boolsD, sFor, forGo]
  · cases v with
    | tuple ds =>
      simp [isN] at h3
      have : ds.length ≠ 3 := by omega
      simp [F_is_plan, B_is_plan, callD, callB, callO, args0, sSeq, sIf, sRet, sRetN, sRetO, sDrop, sAsg, sPar, sNx, sBk, sCt, sNever, eVar, eC, e1, e2, eIf, asB, eAnd, eOr, tAndM, tOrM, dNot, tNotB, aNil, aCons, mkT_ok, mkL_ok, gName, gsNil, gsCons, gTup, gLst, eChain, oNone, oSome, eSl, dIsi, dIsi2, tYesM, h3, this]
    | _ => simp [F_is_plan, B_is_plan, callD, callB, callO, args0, sSeq, sIf, sRet, sRetN, sRetO, sDrop, sAsg, sPar, sNx, sBk, sCt, sNever, eVar, eC, e1, e2, eIf, asB, eAnd, eOr, tAndM, tOrM, dNot, tNotB, aNil, aCons, mkT_ok, mkL_ok, gName, gsNil, gsCons, gTup, gLst, eChain, oNone, oSome, eSl, dIsi, dIsi2, tYesM]
theorem is_plan_yes {p : Pln} (o : p.Ok) : F_is_plan [p.d] = some (.bool true) := by
  have e := size_of_eq o.toSh
  have h1 := hab_ok o.a
  have h2 := hab_ok o.b
  simp only [Pln.d] at e
  simp [F_is_plan, B_is_plan, callD, callB, callO, args0, sSeq, sIf, sRet, sRetN, sRetO, sDrop, sAsg, sPar, sNx, sBk, sCt, sNever, eVar, eC, e1, e2, eIf, asB, eAnd, eOr, tAndM, tOrM, dNot, tNotB, aNil, aCons, mkT_ok, mkL_ok, gName, gsNil, gsCons, gTup, gLst, eChain, oNone, oSome, eSl, dIsi, dIsi2, tYesM, most, eLc, okW, isOl, lcGo, wipeR, restR, fAll, boolsD, sFor, forGo, Pln.d, h1, h2, is_habit_eq, o.x1, o.x2, o.y1, o.y2, e, c_MOST_SIZE, o.size]
theorem law_good_plan_no (v : D) (h : ¬ planB v) : F__law_good_plan [v] = some (.bool false) := by
  rcases isN3_or v with ⟨a, b, c, rfl⟩ | h3
  · rcases isN2_or a with ⟨h1, h2, rfl⟩ | ha
    · rcases isN2_or b with ⟨d1, d2, rfl⟩ | hb
      · cases hc : isB c
        · simp [F__law_good_plan, B__law_good_plan, callD, callB, callO, args0, sSeq, sIf, sRet, sRetN, sRetO, sDrop, sAsg, sPar, sNx, sBk, sCt, sNever, eVar, eC, e1, e2, eIf, asB, eAnd, eOr, tAndM, tOrM, dNot, tNotB, aNil, aCons, mkT_ok, mkL_ok, gName, gsNil, gsCons, gTup, gLst, eChain, oNone, oSome, eSl, dIsi, dIsi2, tYesM, hc]
        · cases c <;> simp at hc
          rename_i ov
          cases hh1 : habB h1
          · simp [F__law_good_plan, B__law_good_plan, callD, callB, callO, args0, sSeq, sIf, sRet, sRetN, sRetO, sDrop, sAsg, sPar, sNx, sBk, sCt, sNever, eVar, eC, e1, e2, eIf, asB, eAnd, eOr, tAndM, tOrM, dNot, tNotB, aNil, aCons, mkT_ok, mkL_ok, gName, gsNil, gsCons, gTup, gLst, eChain, oNone, oSome, eSl, dIsi, dIsi2, tYesM, hh1, law_good_habit_eq]
          · cases hh2 : habB h2
            · simp [F__law_good_plan, B__law_good_plan, callD, callB, callO, args0, sSeq, sIf, sRet, sRetN, sRetO, sDrop, sAsg, sPar, sNx, sBk, sCt, sNever, eVar, eC, e1, e2, eIf, asB, eAnd, eOr, tAndM, tOrM, dNot, tNotB, aNil, aCons, mkT_ok, mkL_ok, gName, gsNil, gsCons, gTup, gLst, eChain, oNone, oSome, eSl, dIsi, dIsi2, tYesM, hh1, hh2, law_good_habit_eq]
            · obtain ⟨p, po, rfl⟩ := habB_iff.mp hh1
              obtain ⟨q, qo, rfl⟩ := habB_iff.mp hh2
              cases hd1 : inB 1 3 d1
              · simp [F__law_good_plan, B__law_good_plan, callD, callB, callO, args0, sSeq, sIf, sRet, sRetN, sRetO, sDrop, sAsg, sPar, sNx, sBk, sCt, sNever, eVar, eC, e1, e2, eIf, asB, eAnd, eOr, tAndM, tOrM, dNot, tNotB, aNil, aCons, mkT_ok, mkL_ok, gName, gsNil, gsCons, gTup, gLst, eChain, oNone, oSome, eSl, dIsi, dIsi2, tYesM, hh1, hh2, law_good_habit_eq, hd1]
              · cases hd2 : inB 1 3 d2
                · simp [F__law_good_plan, B__law_good_plan, callD, callB, callO, args0, sSeq, sIf, sRet, sRetN, sRetO, sDrop, sAsg, sPar, sNx, sBk, sCt, sNever, eVar, eC, e1, e2, eIf, asB, eAnd, eOr, tAndM, tOrM, dNot, tNotB, aNil, aCons, mkT_ok, mkL_ok, gName, gsNil, gsCons, gTup, gLst, eChain, oNone, oSome, eSl, dIsi, dIsi2, tYesM, hh1, hh2, law_good_habit_eq, hd1, hd2]
                · obtain ⟨x, rfl, x1, x2⟩ := inB_some hd1
                  obtain ⟨y, rfl, y1, y2⟩ := inB_some hd2
                  have sh : Pln.Sh ⟨p, q, x, y, ov⟩ := ⟨po, qo, x1, x2, y1, y2⟩
                  have e := law_size_eq sh
                  have ng : ¬ (Pln.size ⟨p, q, x, y, ov⟩ ≤ 10000) := fun z => h ⟨_, ⟨sh, z⟩, rfl⟩
                  simp only [Pln.d] at e
                  simp [F__law_good_plan, B__law_good_plan, callD, callB, callO, args0, sSeq, sIf, sRet, sRetN, sRetO, sDrop, sAsg, sPar, sNx, sBk, sCt, sNever, eVar, eC, e1, e2, eIf, asB, eAnd, eOr, tAndM, tOrM, dNot, tNotB, aNil, aCons, mkT_ok, mkL_ok, gName, gsNil, gsCons, gTup, gLst, eChain, oNone, oSome, eSl, dIsi, dIsi2, tYesM, hh1, hh2, law_good_habit_eq, x1, x2, y1, y2, e, ng]
      · simp [F__law_good_plan, B__law_good_plan, callD, callB, callO, args0, sSeq, sIf, sRet, sRetN, sRetO, sDrop, sAsg, sPar, sNx, sBk, sCt, sNever, eVar, eC, e1, e2, eIf, asB, eAnd, eOr, tAndM, tOrM, dNot, tNotB, aNil, aCons, mkT_ok, mkL_ok, gName, gsNil, gsCons, gTup, gLst, eChain, oNone, oSome, eSl, dIsi, dIsi2, tYesM, hb]
    · simp [F__law_good_plan, B__law_good_plan, callD, callB, callO, args0, sSeq, sIf, sRet, sRetN, sRetO, sDrop, sAsg, sPar, sNx, sBk, sCt, sNever, eVar, eC, e1, e2, eIf, asB, eAnd, eOr, tAndM, tOrM, dNot, tNotB, aNil, aCons, mkT_ok, mkL_ok, gName, gsNil, gsCons, gTup, gLst, eChain, oNone, oSome, eSl, dIsi, dIsi2, tYesM, ha]
  · simp [F__law_good_plan, B__law_good_plan, callD, callB, callO, args0, sSeq, sIf, sRet, sRetN, sRetO, sDrop, sAsg, sPar, sNx, sBk, sCt, sNever, eVar, eC, e1, e2, eIf, asB, eAnd, eOr, tAndM, tOrM, dNot, tNotB, aNil, aCons, mkT_ok, mkL_ok, gName, gsNil, gsCons, gTup, gLst, eChain, oNone, oSome, eSl, dIsi, dIsi2, tYesM, h3]
theorem law_good_plan_yes {p : Pln} (o : p.Ok) : F__law_good_plan [p.d] = some (.bool true) := by
  have e := law_size_eq o.toSh
  have h1 := hab_ok o.a
  have h2 := hab_ok o.b
  simp only [Pln.d] at e
  simp [F__law_good_plan, B__law_good_plan, callD, callB, callO, args0, sSeq, sIf, sRet, sRetN, sRetO, sDrop, sAsg, sPar, sNx, sBk, sCt, sNever, eVar, eC, e1, e2, eIf, asB, eAnd, eOr, tAndM, tOrM, dNot, tNotB, aNil, aCons, mkT_ok, mkL_ok, gName, gsNil, gsCons, gTup, gLst, eChain, oNone, oSome, eSl, dIsi, dIsi2, tYesM, Pln.d, h1, h2, law_good_habit_eq, o.x1, o.x2, o.y1, o.y2, e, o.size]
open Classical in
theorem is_plan_eq (v : D) : F_is_plan [v] = some (.bool (decide (planB v))) := by
  by_cases h : planB v
  · obtain ⟨p, o, rfl⟩ := h
    rw [is_plan_yes o, decide_eq_true ⟨p, o, rfl⟩]
  · rw [is_plan_no v h, decide_eq_false h]
open Classical in
theorem law_good_plan_eq (v : D) : F__law_good_plan [v] = some (.bool (decide (planB v))) := by
  by_cases h : planB v
  · obtain ⟨p, o, rfl⟩ := h
    rw [law_good_plan_yes o, decide_eq_true ⟨p, o, rfl⟩]
  · rw [law_good_plan_no v h, decide_eq_false h]
@[simp] theorem look_at_plan_yes {p : Pln} (o : p.Ok) : F_look_at_plan [p.d] = some .none := by
  simp [F_look_at_plan, B_look_at_plan, callD, callB, callO, args0, sSeq, sIf, sRet, sRetN, sRetO, sDrop, sAsg, sPar, sNx, sBk, sCt, sNever, eVar, eC, e1, e2, eIf, asB, eAnd, eOr, tAndM, tOrM, dNot, tNotB, aNil, aCons, mkT_ok, mkL_ok, gName, gsNil, gsCons, gTup, gLst, eChain, oNone, oSome, eSl, dIsi, dIsi2, tYesM, is_plan_yes o]
end VS

namespace VS
open PySem PySem.Spec PyProof.Rows L2

/-! ### draws -/
def Spr (es : List D) : Prop := ∃ a b, es = [.int a, .int b]
@[simp] theorem intI {i : Int} : fInt [.int i] = some (.int i) := rfl
@[simp] theorem intB {b : Bool} : fInt [.bool b] = some (.int (if b then 1 else 0)) := by cases b <;> rfl
theorem modI {i j : Int} (h : 0 < j) : iMod (.int i) (.int j) = some (.int (i % j)) := if_pos h
theorem divI {i j : Int} (h : 0 < j) (h2 : j < 1073741824) : iDiv (.int i) (.int j) = some (.int (i / j)) := if_pos ⟨h, by omega⟩
@[simp] theorem mix1 {i : Int} : dMul (.int i) (.int 393555900739) = some (.int (i * 393555900739)) := mulI (.inr (by decide))
@[simp] theorem mix2 {i : Int} : dMul (.int i) (.int 863) = some (.int (i * 863)) := mulI (.inr (by decide))
@[simp] theorem mix3 {i : Int} : dMul (.int 524287) (.int i) = some (.int (524287 * i)) := mulI (.inl (by decide))
@[simp] theorem mix4 {i : Int} : iMod (.int i) (.int 999999999989) = some (.int (i % 999999999989)) := modI (by decide)
@[simp] theorem mix5 {i : Int} : iDiv (.int i) (.int 4093) = some (.int (i / 4093)) := divI (by decide) (by decide)
@[simp] theorem atI0 {a : D} {l : List D} : atI (a :: l) 0 = some a := atI_nn (by decide) rfl
@[simp] theorem atI1 {a b : D} {l : List D} : atI (a :: b :: l) 1 = some b := atI_nn (by decide) rfl
@[simp] theorem ixN20 : ixN 2 0 = some 0 := rfl
@[simp] theorem ixN21 : ixN 2 1 = some 1 := rfl
theorem pick_ok {es : List D} (hs : Spr es) (m : Int) (h1 : 0 < m) (h2 : m < 1073741824) : ∃ r es', F__law_pick es [.int m] = some (.int r, es') ∧ 0 ≤ r ∧ r < m ∧ Spr es' := by
  obtain ⟨a, b, rfl⟩ := hs
  have n1 := Int.emod_nonneg
  by_cases h : 0 < a
  · refine ⟨a % m, [.int (a / m), .int b], ?_, Int.emod_nonneg _ (by omega), Int.emod_lt_of_pos _ h1, _, _, rfl⟩
    simp [F__law_pick, B__law_pick, callD, callB, callO, args0, sSeq, sIf, sRet, sRetN, sRetO, sDrop, sAsg, sPar, sNx, sBk, sCt, sNever, eVar, eC, e1, e2, eIf, asB, eAnd, eOr, tAndM, tOrM, dNot, tNotB, aNil, aCons, mkT_ok, mkL_ok, gName, gsNil, gsCons, gTup, gLst, eChain, oNone, oSome, eSl, dIsi, dIsi2, tYesM, isOl, eIxO, sSetO, h, modI h1, divI h1 h2]
  · refine ⟨(b * 393555900739 + 8191) % 999999999989 / 4093 % m, [.int a, .int ((b * 393555900739 + 8191) % 999999999989)], ?_, Int.emod_nonneg _ (by omega), Int.emod_lt_of_pos _ h1, _, _, rfl⟩
    simp [F__law_pick, B__law_pick, callD, callB, callO, args0, sSeq, sIf, sRet, sRetN, sRetO, sDrop, sAsg, sPar, sNx, sBk, sCt, sNever, eVar, eC, e1, e2, eIf, asB, eAnd, eOr, tAndM, tOrM, dNot, tNotB, aNil, aCons, mkT_ok, mkL_ok, gName, gsNil, gsCons, gTup, gLst, eChain, oNone, oSome, eSl, dIsi, dIsi2, tYesM, isOl, eIxO, sSetO, h, modI h1, divI h1 h2]
theorem atI_of {ds : List D} {i : Int} (h0 : 0 ≤ i) (h1 : i < ds.length) : ∃ d, atI ds i = some d ∧ d ∈ ds := by
  have hl : i.toNat < ds.length := by omega
  exact ⟨ds[i.toNat], atI_nn h0 (List.getElem?_eq_getElem hl), List.getElem_mem hl⟩
theorem ixL_of {ds : List D} {i : Int} (h0 : 0 ≤ i) (h1 : i < ds.length) : ∃ d, dIx (.list ds) (.int i) = some d ∧ d ∈ ds := by
  obtain ⟨d, h, m⟩ := atI_of h0 h1
  exact ⟨d, (orE_none rfl).trans (orE_some h), m⟩
theorem ixT_of {ds : List D} {i : Int} (h0 : 0 ≤ i) (h1 : i < ds.length) : ∃ d, dIx (.tuple ds) (.int i) = some d ∧ d ∈ ds := by
  obtain ⟨d, h, m⟩ := atI_of h0 h1
  exact ⟨d, orE_some h, m⟩
def scrD (script : List Int) : D := .list (script.map .int)
@[simp] theorem pow18 : iPow (.int 10) (.int 18) = some (.int (10 ^ 18)) := rfl
theorem spring_ok (script : List Int) (at' : Int) (h0 : 0 ≤ at') : ∃ es, F__law_spring [scrD script, .int at'] = some es ∧ Spr es := by
  by_cases h : at' < script.length
  · obtain ⟨d, e, m⟩ := ixL_of (ds := script.map .int) h0 (by simpa using h)
    obtain ⟨i, hi, rfl⟩ := List.mem_map.mp m
    obtain ⟨j, hj⟩ : ∃ j, fAbs [.int i] = some (.int j) := ⟨_, rfl⟩
    by_cases h2 : (1000000000000000000 : Int) ≤ j <;> exact ⟨_, by simp [F__law_spring, B__law_spring, callD, callB, callO, args0, sSeq, sIf, sRet, sRetN, sRetO, sDrop, sAsg, sPar, sNx, sBk, sCt, sNever, eVar, eC, e1, e2, eIf, asB, eAnd, eOr, tAndM, tOrM, dNot, tNotB, aNil, aCons, mkT_ok, mkL_ok, gName, gsNil, gsCons, gTup, gLst, eChain, oNone, oSome, eSl, dIsi, dIsi2, tYesM, most, eLc, okW, isOl, lcGo, wipeR, restR, fAll, boolsD, sFor, forGo, scrD, h, e, hj, h2]; exact ⟨rfl, rfl⟩, _, _, rfl⟩
  · exact ⟨_, by simp [F__law_spring, B__law_spring, callD, callB, callO, args0, sSeq, sIf, sRet, sRetN, sRetO, sDrop, sAsg, sPar, sNx, sBk, sCt, sNever, eVar, eC, e1, e2, eIf, asB, eAnd, eOr, tAndM, tOrM, dNot, tNotB, aNil, aCons, mkT_ok, mkL_ok, gName, gsNil, gsCons, gTup, gLst, eChain, oNone, oSome, eSl, dIsi, dIsi2, tYesM, most, eLc, okW, isOl, lcGo, wipeR, restR, fAll, boolsD, sFor, forGo, scrD, h]; exact ⟨rfl, rfl⟩, _, _, rfl⟩
@[simp] theorem min2I {i j : Int} : fMin2 [.int i, .int j] = some (.int (if j < i then j else i)) := rfl
theorem cases3 {r : Int} (h0 : 0 ≤ r) (h1 : r < 3) : r = 0 ∨ r = 1 ∨ r = 2 := by omega
theorem cases4 {r : Int} (h0 : 0 ≤ r) (h1 : r < 4) : r = 0 ∨ r = 1 ∨ r = 2 ∨ r = 3 := by omega
theorem idx3 {r : Int} (h0 : 0 ≤ r) (h1 : r < 3) : ∃ q, dIx (.list [.int 0, .int 0, .int 1]) (.int r) = some (.int q) ∧ 0 ≤ q := by
  rcases cases3 h0 h1 with rfl | rfl | rfl
  · exact ⟨0, rfl, by decide⟩
  · exact ⟨0, rfl, by decide⟩
  · exact ⟨1, rfl, by decide⟩
theorem idx4 {r : Int} (h0 : 0 ≤ r) (h1 : r < 4) : ∃ q, dIx (.list [.int 0, .int 0, .int 1, .int 2]) (.int r) = some (.int q) ∧ 0 ≤ q := by
  rcases cases4 h0 h1 with rfl | rfl | rfl | rfl
  · exact ⟨0, rfl, by decide⟩
  · exact ⟨0, rfl, by decide⟩
  · exact ⟨1, rfl, by decide⟩
  · exact ⟨2, rfl, by decide⟩
theorem habit_ok {es : List D} (hs : Spr es) (m : Int) (h1 : 0 < m) (h2 : m ≤ 6) : ∃ (h : Hab) (es' : List D), F__law_habit es [.int m] = some (h.d, es') ∧ h.Ok ∧ Spr es' := by
  obtain ⟨r1, es1, e1', a1, b1, s1⟩ := pick_ok hs 2 (by decide) (by decide)
  obtain ⟨r2, es2, e2', a2, b2, s2⟩ := pick_ok s1 3 (by decide) (by decide)
  obtain ⟨r3, es3, e3, a3, b3, s3⟩ := pick_ok s2 m h1 (by omega)
  obtain ⟨r4, es4, e4, a4, b4, s4⟩ := pick_ok s3 4 (by decide) (by decide)
  obtain ⟨r5, es5, e5, a5, b5, s5⟩ := pick_ok s4 3 (by decide) (by decide)
  obtain ⟨r6, es6, e6, a6, b6, s6⟩ := pick_ok s5 3 (by decide) (by decide)
  obtain ⟨q, eq, hq⟩ := idx3 a2 b2
  obtain ⟨q', eq', hq'⟩ := idx4 a4 b4
  refine ⟨⟨2 + r1, if 2 + r1 + q < 4 then 2 + r1 + q else 4, 1 + r3, if 1 + r3 + q' < 6 then 1 + r3 + q' else 6, decide (0 < r5), decide (0 < r6)⟩, es6, ?_, ⟨?_, ?_, ?_, ?_, ?_, ?_⟩, s6⟩
  · simp [F__law_habit, B__law_habit, callD, callB, callO, args0, sSeq, sIf, sRet, sRetN, sRetO, sDrop, sAsg, sPar, sNx, sBk, sCt, sNever, eVar, eC, e1, e2, eIf, asB, eAnd, eOr, tAndM, tOrM, dNot, tNotB, aNil, aCons, mkT_ok, mkL_ok, gName, gsNil, gsCons, gTup, gLst, eChain, oNone, oSome, eSl, dIsi, dIsi2, tYesM, eBor, isOl, e1', e2', e3, e4, e5, e6, eq, eq', Hab.d]
  · show 2 ≤ 2 + r1; omega
  · show 2 + r1 ≤ if 2 + r1 + q < 4 then 2 + r1 + q else 4; split <;> omega
  · show (if 2 + r1 + q < 4 then 2 + r1 + q else 4) ≤ 4; split <;> omega
  · show 1 ≤ 1 + r3; omega
  · show 1 + r3 ≤ if 1 + r3 + q' < 6 then 1 + r3 + q' else 6; split <;> omega
  · show (if 1 + r3 + q' < 6 then 1 + r3 + q' else 6) ≤ 6; split <;> omega
theorem plan_ok {es : List D} (hs : Spr es) (bound : Int) (hb : 2025 ≤ bound) : ∃ (p : Pln) (es' : List D), F__law_plan es [.int bound] = some (p.d, es') ∧ p.Sh ∧ p.size ≤ bound ∧ Spr es' := by
  obtain ⟨h, es1, e1', o1, s1⟩ := habit_ok hs 4 (by decide) (by decide)
  obtain ⟨k, es2, e2', o2, s2⟩ := habit_ok s1 4 (by decide) (by decide)
  obtain ⟨r3, es3, e3, a3, b3, s3⟩ := pick_ok s2 2 (by decide) (by decide)
  obtain ⟨r4, es4, e4, a4, b4, s4⟩ := pick_ok s3 2 (by decide) (by decide)
  obtain ⟨r5, es5, e5, a5, b5, s5⟩ := pick_ok s4 3 (by decide) (by decide)
  have sh1 : Pln.Sh ⟨h, k, 1 + r3, 1 + r4, decide (r5 = 0)⟩ := ⟨o1, o2, by show 1 ≤ 1 + r3; omega, by show 1 + r3 ≤ 3; omega, by show 1 ≤ 1 + r4; omega, by show 1 + r4 ≤ 3; omega⟩
  have sh2 : Pln.Sh ⟨h, k, 1, 1, decide (r5 = 0)⟩ := ⟨o1, o2, by simp, by simp, by simp, by simp⟩
  have sh3 : Pln.Sh ⟨h, ⟨2, 2, 2, 2, k.st, true⟩, 1, 1, decide (r5 = 0)⟩ := ⟨o1, (by constructor <;> simp), by simp, by simp, by simp, by simp⟩
  have sh4 : Pln.Sh ⟨⟨2, 2, 1, 2, true, false⟩, ⟨2, 2, 2, 2, k.st, true⟩, 1, 1, decide (r5 = 0)⟩ := ⟨(by constructor <;> simp), (by constructor <;> simp), by simp, by simp, by simp, by simp⟩
  have z1 := law_size_eq sh1
  have z2 := law_size_eq sh2
  have z3 := law_size_eq sh3
  simp only [Pln.d] at z1 z2 z3
  have ek : k.d = .tuple [.tuple [.int k.s0, .int k.s1], .tuple [.int k.w0, .int k.w1], .bool k.st, .bool k.eg] := rfl
  have k2 : dIx k.d (.int 2) = some (.bool k.st) := by rw [ek]; exact ixT2
  have d3 : Hab.d ⟨2, 2, 2, 2, k.st, true⟩ = .tuple [.tuple [.int 2, .int 2], .tuple [.int 2, .int 2], .bool k.st, .bool true] := rfl
  rw [d3] at z3
  by_cases c1 : bound < Pln.size ⟨h, k, 1 + r3, 1 + r4, decide (r5 = 0)⟩
  · by_cases c2 : bound < Pln.size ⟨h, k, 1, 1, decide (r5 = 0)⟩
    · by_cases c3 : bound < Pln.size ⟨h, ⟨2, 2, 2, 2, k.st, true⟩, 1, 1, decide (r5 = 0)⟩
      · refine ⟨_, es5, ?_, sh4, Int.le_trans (b := 2025) ?_ hb, s5⟩
        · simp [F__law_plan, B__law_plan, callD, callB, callO, args0, sSeq, sIf, sRet, sRetN, sRetO, sDrop, sAsg, sPar, sNx, sBk, sCt, sNever, eVar, eC, e1, e2, eIf, asB, eAnd, eOr, tAndM, tOrM, dNot, tNotB, aNil, aCons, mkT_ok, mkL_ok, gName, gsNil, gsCons, gTup, gLst, eChain, oNone, oSome, eSl, dIsi, dIsi2, tYesM, eBor, isOl, e1', e2', e3, e4, e5, z1, z2, z3, c1, c2, c3, k2, Pln.d, d3]
          rfl
        · exact Int.le_of_eq rfl
      · refine ⟨_, es5, ?_, sh3, Int.not_lt.mp c3, s5⟩
        simp [F__law_plan, B__law_plan, callD, callB, callO, args0, sSeq, sIf, sRet, sRetN, sRetO, sDrop, sAsg, sPar, sNx, sBk, sCt, sNever, eVar, eC, e1, e2, eIf, asB, eAnd, eOr, tAndM, tOrM, dNot, tNotB, aNil, aCons, mkT_ok, mkL_ok, gName, gsNil, gsCons, gTup, gLst, eChain, oNone, oSome, eSl, dIsi, dIsi2, tYesM, eBor, isOl, e1', e2', e3, e4, e5, z1, z2, z3, c1, c2, c3, k2, Pln.d, d3]
    · refine ⟨_, es5, ?_, sh2, Int.not_lt.mp c2, s5⟩
      simp [F__law_plan, B__law_plan, callD, callB, callO, args0, sSeq, sIf, sRet, sRetN, sRetO, sDrop, sAsg, sPar, sNx, sBk, sCt, sNever, eVar, eC, e1, e2, eIf, asB, eAnd, eOr, tAndM, tOrM, dNot, tNotB, aNil, aCons, mkT_ok, mkL_ok, gName, gsNil, gsCons, gTup, gLst, eChain, oNone, oSome, eSl, dIsi, dIsi2, tYesM, eBor, isOl, e1', e2', e3, e4, e5, z1, z2, c1, c2, k2, Pln.d]
  · refine ⟨_, es5, ?_, sh1, Int.not_lt.mp c1, s5⟩
    simp [F__law_plan, B__law_plan, callD, callB, callO, args0, sSeq, sIf, sRet, sRetN, sRetO, sDrop, sAsg, sPar, sNx, sBk, sCt, sNever, eVar, eC, e1, e2, eIf, asB, eAnd, eOr, tAndM, tOrM, dNot, tNotB, aNil, aCons, mkT_ok, mkL_ok, gName, gsNil, gsCons, gTup, gLst, eChain, oNone, oSome, eSl, dIsi, dIsi2, tYesM, eBor, isOl, e1', e2', e3, e4, e5, z1, c1, k2, Pln.d]
end VS

namespace VS
open PySem PySem.Spec PyProof.Rows L2

/-! ### stands -/
inductive Hg where
  | none | torn | whole
  deriving DecidableEq
abbrev sQ : Str := Str.ofString "quiet"
abbrev sP : Str := Str.ofString "speaks"
abbrev sNo : Str := Str.ofString "none"
abbrev sTo : Str := Str.ofString "torn"
abbrev sWh : Str := Str.ofString "whole"
def Hg.s : Hg → Str
  | .none => sNo
  | .torn => sTo
  | .whole => sWh
def modeS (sp : Bool) : Str := if sp then sP else sQ
structure Prt where
  (sp : Bool)
  (n : Int)
  (g : Hg)
  deriving DecidableEq
structure Std where
  (p q : Prt)
  (l m : List Int)
  deriving DecidableEq
def lineD (l : List Int) : D := .tuple (l.map .int)
def Prt.d (p : Prt) : D := .tuple [.str (modeS p.sp), .int p.n, .str p.g.s]
def Std.d (s : Std) : D := .tuple [.tuple [s.p.d, s.q.d], .tuple [lineD s.l, lineD s.m]]
def Prt.Ok (h : Hab) (p : Prt) : Prop := if p.sp then 1 ≤ p.n ∧ p.n ≤ h.s1 - 1 else 0 ≤ p.n ∧ p.n ≤ h.w1
def lineOk (n : Int) (l : List Int) : Prop := (l.length : Int) = n ∧ ∀ i ∈ l, 0 ≤ i ∧ i ≤ 3
structure Std.Ok (p : Pln) (s : Std) : Prop where
  okp : s.p.Ok p.a
  okq : s.q.Ok p.b
  okl : lineOk p.x s.l
  okm : lineOk p.y s.m

theorem ne_QP : ¬ (sQ = sP) := by decide +kernel
theorem ne_PQ : ¬ (sP = sQ) := by decide +kernel
theorem ok_Q : PyData.strOk sQ = true := by decide +kernel
theorem ok_P : PyData.strOk sP = true := by decide +kernel
theorem ok_No : PyData.strOk sNo = true := by decide +kernel
theorem ok_To : PyData.strOk sTo = true := by decide +kernel
theorem ok_Wh : PyData.strOk sWh = true := by decide +kernel
@[simp] theorem ok_mode {b : Bool} : PyData.strOk (modeS b) = true := by cases b <;> first | exact ok_Q | exact ok_P
@[simp] theorem ok_hg {g : Hg} : PyData.strOk g.s = true := by cases g <;> first | exact ok_No | exact ok_To | exact ok_Wh
@[simp] theorem mode_inj {a b : Bool} : modeS a = modeS b ↔ a = b := by
  cases a <;> cases b <;> simp [modeS, ne_QP, ne_PQ]
theorem hg_ne1 : ¬ (sNo = sTo) := by decide +kernel
theorem hg_ne2 : ¬ (sNo = sWh) := by decide +kernel
theorem hg_ne3 : ¬ (sTo = sWh) := by decide +kernel
@[simp] theorem hg_inj {a b : Hg} : a.s = b.s ↔ a = b := by
  have h1 := hg_ne1
  have h2 := hg_ne2
  have h3 := hg_ne3
  have h4 : ¬ (sTo = sNo) := fun z => h1 z.symm
  have h5 : ¬ (sWh = sNo) := fun z => h2 z.symm
  have h6 : ¬ (sWh = sTo) := fun z => h3 z.symm
  cases a <;> cases b <;> simp [Hg.s, h1, h2, h3, h4, h5, h6]
theorem eqS {x y : Str} (h1 : PyData.strOk x = true) (h2 : PyData.strOk y = true) : dEq (.str x) (.str y) = some (.bool (decide (x = y))) := by
  simp [dEq, okEq, PyData.canLay0, PyData.depth, PyData.eqv, h1, h2]; exact Bool.beq_eq_decide_eq _ _
theorem strQ : (.str (Str.ofString "quiet") : D) = .str (modeS false) := rfl
theorem strP : (.str (Str.ofString "speaks") : D) = .str (modeS true) := rfl
theorem strNo : (.str (Str.ofString "none") : D) = .str (Hg.s .none) := rfl
theorem strTo : (.str (Str.ofString "torn") : D) = .str (Hg.s .torn) := rfl
theorem strWh : (.str (Str.ofString "whole") : D) = .str (Hg.s .whole) := rfl
theorem c_QUIET_eq : c_QUIET = .str (modeS false) := rfl
theorem c_SPEAKS_eq : c_SPEAKS = .str (modeS true) := rfl
theorem c_HEARINGS_eq : c_HEARINGS = .tuple [.str (Hg.s .none), .str (Hg.s .torn), .str (Hg.s .whole)] := rfl
@[simp] theorem eqMode {a b : Bool} : dEq (.str (modeS a)) (.str (modeS b)) = some (.bool (decide (a = b))) := by rw [eqS ok_mode ok_mode]; simp
@[simp] theorem eqHg {a b : Hg} : dEq (.str a.s) (.str b.s) = some (.bool (decide (a = b))) := by rw [eqS ok_hg ok_hg]; simp
def mode? (x : Str) : Option Bool := if x = modeS false then some false else if x = modeS true then some true else none
def hg? (x : Str) : Option Hg := if x = Hg.s .none then some .none else if x = Hg.s .torn then some .torn else if x = Hg.s .whole then some .whole else none
theorem mode_some {x : Str} {b : Bool} (h : mode? x = some b) : x = modeS b := by
  unfold mode? at h; split at h
  · cases h; assumption
  · split at h
    · cases h; assumption
    · cases h
theorem hg_some {x : Str} {g : Hg} (h : hg? x = some g) : x = g.s := by
  unfold hg? at h; split at h
  · cases h; assumption
  · split at h
    · cases h; assumption
    · split at h
      · cases h; assumption
      · cases h
@[simp] theorem mode_of {b : Bool} : mode? (modeS b) = some b := by cases b <;> simp [mode?]
@[simp] theorem hg_of {g : Hg} : hg? g.s = some g := by cases g <;> simp [hg?]
theorem inMode {neg : Bool} {x : Str} : dIn neg (.str x) (.tuple [.str (modeS false), .str (modeS true)]) = some (.bool (neg ^^ (mode? x).isSome)) := by
  refine orE_some ?_
  simp only [fIn, flatD, List.all_cons, List.all_nil, Bool.and_self, if_pos, List.any_cons, List.any_nil, PyData.eqv, Bool.or_false, Bool.beq_eq_decide_eq]
  unfold mode?
  by_cases h1 : x = modeS false
  · simp [h1]
  · by_cases h2 : x = modeS true
    · simp [h2]
    · simp [h1, h2, Ne.symm h1, Ne.symm h2]
theorem inModeL {neg : Bool} {x : Str} : dIn neg (.str x) (.list [.str (modeS false), .str (modeS true)]) = some (.bool (neg ^^ (mode? x).isSome)) := by
  refine Eq.trans ?_ (inMode (neg := neg) (x := x))
  refine (orE_some (z := .bool (neg ^^ (mode? x).isSome)) ?_).trans inMode.symm
  have := inMode (neg := neg) (x := x)
  simpa [dIn, orE, fIn, flatD] using this
theorem inHg {neg : Bool} {x : Str} : dIn neg (.str x) (.tuple [.str (Hg.s .none), .str (Hg.s .torn), .str (Hg.s .whole)]) = some (.bool (neg ^^ (hg? x).isSome)) := by
  refine orE_some ?_
  simp only [fIn, flatD, List.all_cons, List.all_nil, Bool.and_self, if_pos, List.any_cons, List.any_nil, PyData.eqv, Bool.or_false, Bool.beq_eq_decide_eq]
  unfold hg?
  by_cases h1 : x = Hg.s .none
  · simp [h1]
  · by_cases h2 : x = Hg.s .torn
    · simp [h2]
    · by_cases h3 : x = Hg.s .whole
      · simp [h3]
      · simp [h1, h2, h3, Ne.symm h1, Ne.symm h2, Ne.symm h3]
theorem inHgL {neg : Bool} {x : Str} : dIn neg (.str x) (.list [.str (Hg.s .none), .str (Hg.s .torn), .str (Hg.s .whole)]) = some (.bool (neg ^^ (hg? x).isSome)) := by
  refine (orE_some (z := .bool (neg ^^ (hg? x).isSome)) ?_)
  have := inHg (neg := neg) (x := x)
  simpa [dIn, orE, fIn, flatD] using this

/-! ### parts -/
def partB (h : Hab) (v : D) : Prop := ∃ p : Prt, p.Ok h ∧ v = p.d
open Classical in
theorem is_part_eq (h : Hab) (v : D) : F_is_part [h.d, v] = some (.bool (decide (partB h v))) := by
  have no : ∀ v, ¬ partB h v → decide (partB h v) = false := fun v h => decide_eq_false h
  rcases isN3_or v with ⟨a, b, c, rfl⟩ | h3
  · cases ha : Ty5.is .str a
    · rw [no _ (by rintro ⟨p, _, e⟩; cases e; cases ha)]
      cases hc : Ty5.is .str c <;> simp [F_is_part, B_is_part, callD, callB, callO, args0, sSeq, sIf, sRet, sRetN, sRetO, sDrop, sAsg, sPar, sNx, sBk, sCt, sNever, eVar, eC, e1, e2, eIf, asB, eAnd, eOr, tAndM, tOrM, dNot, tNotB, aNil, aCons, mkT_ok, mkL_ok, gName, gsNil, gsCons, gTup, gLst, eChain, oNone, oSome, eSl, dIsi, dIsi2, tYesM, most, eLc, okW, isOl, lcGo, wipeR, restR, fAll, boolsD, sFor, forGo, ha, hc]
    cases hc : Ty5.is .str c
    · rw [no _ (by rintro ⟨p, _, e⟩; cases e; cases hc)]
      simp [F_is_part, B_is_part, callD, callB, callO, args0, sSeq, sIf, sRet, sRetN, sRetO, sDrop, sAsg, sPar, sNx, sBk, sCt, sNever, eVar, eC, e1, e2, eIf, asB, eAnd, eOr, tAndM, tOrM, dNot, tNotB, aNil, aCons, mkT_ok, mkL_ok, gName, gsNil, gsCons, gTup, gLst, eChain, oNone, oSome, eSl, dIsi, dIsi2, tYesM, most, eLc, okW, isOl, lcGo, wipeR, restR, fAll, boolsD, sFor, forGo, ha, hc]
    cases a <;> simp at ha
    cases c <;> simp at hc
    rename_i x y
    cases hy : hg? y with
    | none =>
      rw [no _ (by rintro ⟨p, _, e⟩; cases e; simp at hy)]
      simp [F_is_part, B_is_part, callD, callB, callO, args0, sSeq, sIf, sRet, sRetN, sRetO, sDrop, sAsg, sPar, sNx, sBk, sCt, sNever, eVar, eC, e1, e2, eIf, asB, eAnd, eOr, tAndM, tOrM, dNot, tNotB, aNil, aCons, mkT_ok, mkL_ok, gName, gsNil, gsCons, gTup, gLst, eChain, oNone, oSome, eSl, dIsi, dIsi2, tYesM, most, eLc, okW, isOl, lcGo, wipeR, restR, fAll, boolsD, sFor, forGo, inHg, inMode, hy, c_QUIET_eq, c_SPEAKS_eq, c_HEARINGS_eq]
    | some g =>
      cases hx : mode? x with
      | none =>
        rw [no _ (by rintro ⟨p, _, e⟩; cases e; simp at hx)]
        simp [F_is_part, B_is_part, callD, callB, callO, args0, sSeq, sIf, sRet, sRetN, sRetO, sDrop, sAsg, sPar, sNx, sBk, sCt, sNever, eVar, eC, e1, e2, eIf, asB, eAnd, eOr, tAndM, tOrM, dNot, tNotB, aNil, aCons, mkT_ok, mkL_ok, gName, gsNil, gsCons, gTup, gLst, eChain, oNone, oSome, eSl, dIsi, dIsi2, tYesM, most, eLc, okW, isOl, lcGo, wipeR, restR, fAll, boolsD, sFor, forGo, inHg, inMode, hx, hy, c_QUIET_eq, c_SPEAKS_eq, c_HEARINGS_eq]
      | some m =>
        have e1' := mode_some hx
        have e2' := hg_some hy
        subst e1' e2'
        cases m
        · simp [F_is_part, B_is_part, callD, callB, callO, args0, sSeq, sIf, sRet, sRetN, sRetO, sDrop, sAsg, sPar, sNx, sBk, sCt, sNever, eVar, eC, e1, e2, eIf, asB, eAnd, eOr, tAndM, tOrM, dNot, tNotB, aNil, aCons, mkT_ok, mkL_ok, gName, gsNil, gsCons, gTup, gLst, eChain, oNone, oSome, eSl, dIsi, dIsi2, tYesM, most, eLc, okW, isOl, lcGo, wipeR, restR, fAll, boolsD, sFor, forGo, inHg, inMode, hx, hy, c_QUIET_eq, c_SPEAKS_eq, c_HEARINGS_eq, Hab.d]
          rw [Bool.eq_iff_iff, decide_eq_true_iff]
          constructor
          · intro q
            obtain ⟨i, rfl, h1, h2⟩ := inB_some q
            exact ⟨⟨false, i, g⟩, ⟨h1, h2⟩, rfl⟩
          · rintro ⟨p, o, e⟩
            simp only [Prt.d, PyData.tuple.injEq, List.cons.injEq, PyData.str.injEq, mode_inj] at e
            obtain ⟨e1', rfl, e3⟩ := e
            unfold Prt.Ok at o
            rw [← e1'] at o
            simpa using o
        · simp [F_is_part, B_is_part, callD, callB, callO, args0, sSeq, sIf, sRet, sRetN, sRetO, sDrop, sAsg, sPar, sNx, sBk, sCt, sNever, eVar, eC, e1, e2, eIf, asB, eAnd, eOr, tAndM, tOrM, dNot, tNotB, aNil, aCons, mkT_ok, mkL_ok, gName, gsNil, gsCons, gTup, gLst, eChain, oNone, oSome, eSl, dIsi, dIsi2, tYesM, most, eLc, okW, isOl, lcGo, wipeR, restR, fAll, boolsD, sFor, forGo, inHg, inMode, hx, hy, c_QUIET_eq, c_SPEAKS_eq, c_HEARINGS_eq, Hab.d]
          rw [Bool.eq_iff_iff, decide_eq_true_iff]
          constructor
          · intro q
            obtain ⟨i, rfl, h1, h2⟩ := inB_some q
            exact ⟨⟨true, i, g⟩, ⟨h1, h2⟩, rfl⟩
          · rintro ⟨p, o, e⟩
            simp only [Prt.d, PyData.tuple.injEq, List.cons.injEq, PyData.str.injEq, mode_inj] at e
            obtain ⟨e1', rfl, e3⟩ := e
            unfold Prt.Ok at o
            rw [← e1'] at o
            simpa using o
  · rw [no _ (by rintro ⟨p, _, e⟩; subst e; cases h3)]
    cases v with
    | tuple ds =>
      simp [isN] at h3
      have : ds.length ≠ 3 := by omega
      simp [F_is_part, B_is_part, callD, callB, callO, args0, sSeq, sIf, sRet, sRetN, sRetO, sDrop, sAsg, sPar, sNx, sBk, sCt, sNever, eVar, eC, e1, e2, eIf, asB, eAnd, eOr, tAndM, tOrM, dNot, tNotB, aNil, aCons, mkT_ok, mkL_ok, gName, gsNil, gsCons, gTup, gLst, eChain, oNone, oSome, eSl, dIsi, dIsi2, tYesM, h3, this]
    | _ => simp [F_is_part, B_is_part, callD, callB, callO, args0, sSeq, sIf, sRet, sRetN, sRetO, sDrop, sAsg, sPar, sNx, sBk, sCt, sNever, eVar, eC, e1, e2, eIf, asB, eAnd, eOr, tAndM, tOrM, dNot, tNotB, aNil, aCons, mkT_ok, mkL_ok, gName, gsNil, gsCons, gTup, gLst, eChain, oNone, oSome, eSl, dIsi, dIsi2, tYesM]
/-! ### comprehensions, loops -/
theorem lc_gen {t : D → Rho → Option Rho} {c : M Bool} {e : M D} {vs : List Nat} {ρ : Rho} (p : D → Bool) (g : D → D) : ∀ {ds : List D},
    (∀ d ∈ ds, ∃ ρ1 ρ2, t d ρ = some ρ1 ∧ c ρ1 = some (p d, ρ2) ∧ (p d = false → wipeR ρ2 vs = ρ) ∧ (p d = true → ∃ ρ3, e ρ2 = some (g d, ρ3) ∧ wipeR ρ3 vs = ρ)) →
    lcGo t c e vs ds ρ = some ((ds.filter p).map g, ρ)
  | [], _ => rfl
  | d :: ds, h => by
    have ih := lc_gen (t := t) (c := c) (e := e) (vs := vs) (ρ := ρ) p g (ds := ds) fun x hx => h x (.tail _ hx)
    obtain ⟨ρ1, ρ2, h1, h2, h3, h4⟩ := h d (.head _)
    unfold lcGo
    rw [h1]
    simp only [h2]
    cases hp : p d with
    | false =>
      simp only [h3 hp]
      rw [ih, List.filter_cons_of_neg (by simp [hp])]
    | true =>
      obtain ⟨ρ3, h5, h6⟩ := h4 hp
      simp only [h5, h6, ih]
      rw [List.filter_cons_of_pos hp]
      rfl
theorem lc_map {t : D → Rho → Option Rho} {c : M Bool} {e : M D} {vs : List Nat} {ρ : Rho} (g : D → D) {ds : List D}
    (h : ∀ d ∈ ds, ∃ ρ1 ρ2 ρ3, t d ρ = some ρ1 ∧ c ρ1 = some (true, ρ2) ∧ e ρ2 = some (g d, ρ3) ∧ wipeR ρ3 vs = ρ) :
    lcGo t c e vs ds ρ = some (ds.map g, ρ) := by
  have := lc_gen (t := t) (c := c) (e := e) (vs := vs) (ρ := ρ) (fun _ => true) g (ds := ds) fun d hd => by
    obtain ⟨ρ1, ρ2, ρ3, h1, h2, h3, h4⟩ := h d hd
    exact ⟨ρ1, ρ2, h1, h2, (fun z => by cases z), fun _ => ⟨ρ3, h3, h4⟩⟩
  rw [this, List.filter_eq_self.mpr (fun _ _ => rfl)]
theorem bools_map (p : D → Bool) : ∀ ds : List D, boolsD (ds.map fun d => .bool (p d)) = some (ds.map p)
  | [] => rfl
  | d :: ds => by simp [boolsD, bools_map p ds]
theorem neNil {ds : List D} (h : PyData.canLayAll0 ds = true) : dNe (.list ds) (.list []) = some (.bool (!ds.isEmpty)) := by
  unfold dNe okEq
  rw [if_pos (by simp [PyData.canLay0, h, PyData.canLayAll0, PyData.depth, PyData.depthAll])]
  cases ds <;> simp [PyData.eqv, PyData.eqvAll]
theorem eqNil {ds : List D} (h : PyData.canLayAll0 ds = true) : dEq (.list ds) (.list []) = some (.bool ds.isEmpty) := by
  unfold dEq okEq
  rw [if_pos (by simp [PyData.canLay0, h, PyData.canLayAll0, PyData.depth, PyData.depthAll])]
  cases ds <;> simp [PyData.eqv, PyData.eqvAll]
theorem lay_ones (ds : List D) : PyData.canLayAll0 (ds.map fun _ => .int 1) = true := by
  induction ds with
  | nil => rfl
  | cons d ds ih => simp [PyData.canLayAll0, PyData.canLay0, ih]

/-! ### lines -/
def lineB (n : Int) (v : D) : Prop := ∃ l : List Int, lineOk n l ∧ v = lineD l
theorem all_inB {lo hi : Int} : ∀ ds : List D, (ds.all (inB lo hi) = true) ↔ ∃ l : List Int, ds = l.map .int ∧ ∀ i ∈ l, lo ≤ i ∧ i ≤ hi
  | [] => ⟨fun _ => ⟨[], rfl, by simp⟩, fun _ => rfl⟩
  | d :: ds => by
    rw [List.all_cons, Bool.and_eq_true, all_inB ds]
    constructor
    · rintro ⟨h1, l, rfl, h2⟩
      obtain ⟨i, rfl, h3⟩ := inB_some h1
      exact ⟨i :: l, rfl, by simpa using ⟨h3, h2⟩⟩
    · rintro ⟨l, e, h⟩
      cases l with
      | nil => cases e
      | cons i l =>
        simp only [List.map_cons, List.cons.injEq] at e
        obtain ⟨rfl, rfl⟩ := e
        have h0 := h i (.head _)
        exact ⟨by simp [h0.1, h0.2], l, rfl, fun j hj => h j (.tail _ hj)⟩
theorem lineB_iff {n : Int} {v : D} : lineB n v ↔ ∃ ds, v = .tuple ds ∧ (ds.length : Int) = n ∧ ds.all (inB 0 3) = true := by
  constructor
  · rintro ⟨l, ⟨h1, h2⟩, rfl⟩
    exact ⟨l.map .int, rfl, by simpa using h1, (all_inB _).mpr ⟨l, rfl, h2⟩⟩
  · rintro ⟨ds, rfl, h1, h2⟩
    obtain ⟨l, rfl, h3⟩ := (all_inB _).mp h2
    exact ⟨l, ⟨by simpa using h1, h3⟩, rfl⟩
open Classical in
theorem is_line_eq (n : Int) (hn : n ≤ 100000) (v : D) : F_is_line [.int n, v] = some (.bool (decide (lineB n v))) := by
  have no : ∀ v, ¬ lineB n v → decide (lineB n v) = false := fun v h => decide_eq_false h
  cases v with
  | tuple ds =>
    by_cases hl : (ds.length : Int) = n
    · have h1 : ds.length ≤ most := by unfold most; omega
      have e := lc_map (t := gName 2) (c := tYesM) (e := e1 F_is_within (aCons (eVar 2) (aCons (eC (.int 0)) (aCons (eC (.int 3)) aNil)))) (vs := [2]) (ρ := [some (.dat (.int n)), some (.dat (.tuple ds)), none]) (fun d => .bool (inB 0 3 d)) (ds := ds)
        (fun d _ => ⟨_, _, _, rfl, rfl, by simp [callD, callB, callO, args0, sSeq, sIf, sRet, sRetN, sRetO, sDrop, sAsg, sPar, sNx, sBk, sCt, sNever, eVar, eC, e1, e2, eIf, asB, eAnd, eOr, tAndM, tOrM, dNot, tNotB, aNil, aCons, mkT_ok, mkL_ok, gName, gsNil, gsCons, gTup, gLst, eChain, oNone, oSome, eSl, dIsi, dIsi2, tYesM]; rfl, rfl⟩)
      have k2 : lineB n (.tuple ds) ↔ ds.all (inB 0 3) = true := by
        rw [lineB_iff]
        exact ⟨fun ⟨es, q, _, h⟩ => by cases q; exact h, fun h => ⟨ds, rfl, hl, h⟩⟩
      rw [show decide (lineB n (.tuple ds)) = ds.all (inB 0 3) from by rw [Bool.eq_iff_iff, decide_eq_true_iff, k2]]
      simp [F_is_line, B_is_line, callD, callB, callO, args0, sSeq, sIf, sRet, sRetN, sRetO, sDrop, sAsg, sPar, sNx, sBk, sCt, sNever, eVar, eC, e1, e2, eIf, asB, eAnd, eOr, tAndM, tOrM, dNot, tNotB, aNil, aCons, mkT_ok, mkL_ok, gName, gsNil, gsCons, gTup, gLst, eChain, oNone, oSome, eSl, dIsi, dIsi2, tYesM, hl, eLc, okW, isOl, wipeR, restR, e, h1, fAll, bools_map]
    · rw [no _ (by rintro ⟨l, ⟨q, _⟩, e⟩; cases e; exact hl (by simpa using q))]
      simp [F_is_line, B_is_line, callD, callB, callO, args0, sSeq, sIf, sRet, sRetN, sRetO, sDrop, sAsg, sPar, sNx, sBk, sCt, sNever, eVar, eC, e1, e2, eIf, asB, eAnd, eOr, tAndM, tOrM, dNot, tNotB, aNil, aCons, mkT_ok, mkL_ok, gName, gsNil, gsCons, gTup, gLst, eChain, oNone, oSome, eSl, dIsi, dIsi2, tYesM, hl]
  | _ => 
    rw [no _ (by rintro ⟨l, _, e⟩; cases e)]
    simp [F_is_line, B_is_line, callD, callB, callO, args0, sSeq, sIf, sRet, sRetN, sRetO, sDrop, sAsg, sPar, sNx, sBk, sCt, sNever, eVar, eC, e1, e2, eIf, asB, eAnd, eOr, tAndM, tOrM, dNot, tNotB, aNil, aCons, mkT_ok, mkL_ok, gName, gsNil, gsCons, gTup, gLst, eChain, oNone, oSome, eSl, dIsi, dIsi2, tYesM]
/-! ### stands, whole -/
theorem law_line_eq (n : Int) (v : D) (lo hi : Int) (x0 x1 x2 x3 x4 x5 : Option SV) (ds : List D) :
    lcGo (gName 7) (e1 tNotB (e1 asB (e1 F__law_int (aCons (eVar 7) (aCons (eC (.int lo)) (aCons (eC (.int hi)) aNil)))))) (eC (.int 1)) [7] ds [x0, x1, x2, x3, x4, x5, some (.dat v), none] = some ((ds.filter fun d => !inB lo hi d).map fun _ => .int 1, [x0, x1, x2, x3, x4, x5, some (.dat v), none]) :=
  lc_gen (fun d => !inB lo hi d) (fun _ => .int 1) fun d _ => ⟨_, _, rfl, by simp [callD, callB, callO, args0, sSeq, sIf, sRet, sRetN, sRetO, sDrop, sAsg, sPar, sNx, sBk, sCt, sNever, eVar, eC, e1, e2, eIf, asB, eAnd, eOr, tAndM, tOrM, dNot, tNotB, aNil, aCons, mkT_ok, mkL_ok, gName, gsNil, gsCons, gTup, gLst, eChain, oNone, oSome, eSl, dIsi, dIsi2, tYesM]; rfl, fun _ => rfl, fun _ => ⟨_, rfl, rfl⟩⟩
theorem filter_len (p : D → Bool) (ds : List D) : ((ds.filter p).map fun _ => (.int 1 : D)).isEmpty = ds.all fun d => !p d := by
  induction ds with
  | nil => rfl
  | cons d ds ih =>
    cases h : p d
    · rw [List.filter_cons_of_neg (by simp [h]), ih]; simp [h]
    · rw [List.filter_cons_of_pos h]; simp [h]
open Classical in
/-- the row of the second loop: a line is judged -/
theorem gs_line (n : Int) (hn : n ≤ 100000) (v : D) (x0 x1 x2 x3 x4 x7 : Option SV) (h7 : ∀ l, x7 ≠ some (.ol l)) :
    L__law_good_stand_1 [x0, x1, x2, x3, x4, some (.dat (.int n)), some (.dat v), x7]
     = some (if lineB n v then (.nx, [x0, x1, x2, x3, x4, some (.dat (.int n)), some (.dat v), x7]) else (.rt (.bool false), [x0, x1, x2, x3, x4, some (.dat (.int n)), some (.dat v), x7])) := by
  cases hm : isN n v
  · rw [if_neg (by rintro ⟨l, ⟨q, _⟩, rfl⟩; simp [isN, lineD, q] at hm)]
    simp [L__law_good_stand_1, callD, callB, callO, args0, sSeq, sIf, sRet, sRetN, sRetO, sDrop, sAsg, sPar, sNx, sBk, sCt, sNever, eVar, eC, e1, e2, eIf, asB, eAnd, eOr, tAndM, tOrM, dNot, tNotB, aNil, aCons, mkT_ok, mkL_ok, gName, gsNil, gsCons, gTup, gLst, eChain, oNone, oSome, eSl, dIsi, dIsi2, tYesM, hm]
  · cases v <;> simp [isN] at hm
    rename_i ds
    have k1 := law_line_eq n (.tuple ds) 0 3 x0 x1 x2 x3 x4 (some (.dat (.int n))) ds
    have hl : (ds.filter fun d => !inB 0 3 d).length ≤ most := by
      have := List.length_filter_le (fun d => !inB 0 3 d) ds
      unfold most; omega
    have k2 := neNil (lay_ones (ds.filter fun d => !inB 0 3 d))
    rw [filter_len] at k2
    have k3 : lineB n (.tuple ds) ↔ ds.all (inB 0 3) = true := by
      rw [lineB_iff]
      exact ⟨fun ⟨es, q, _, h⟩ => by cases q; exact h, fun h => ⟨ds, rfl, hm, h⟩⟩
    have k4 : (ds.all fun d => !!inB 0 3 d) = ds.all (inB 0 3) := by simp
    rw [k4] at k2
    have k5 : isOl [x0, x1, x2, x3, x4, some (.dat (.int n)), some (.dat (.tuple ds)), x7] 7 = none := by
      cases x7 with
      | none => rfl
      | some sv => cases sv with
        | dat d => rfl
        | ol l => exact absurd rfl (h7 l)
    simp only [k3]
    cases hb : ds.all (inB 0 3) <;> rw [hb] at k2 <;> simp [L__law_good_stand_1, callD, callB, callO, args0, sSeq, sIf, sRet, sRetN, sRetO, sDrop, sAsg, sPar, sNx, sBk, sCt, sNever, eVar, eC, e1, e2, eIf, asB, eAnd, eOr, tAndM, tOrM, dNot, tNotB, aNil, aCons, mkT_ok, mkL_ok, gName, gsNil, gsCons, gTup, gLst, eChain, oNone, oSome, eSl, dIsi, dIsi2, tYesM, isN, hm, eLc, okW, wipeR, restR, k1, k2, hl, k5]
open Classical in
/-- the row of the first loop: a part is judged -/
theorem gs_part (h : Hab) (v : D) (x0 x1 x4 x5 x6 x7 : Option SV) : ∃ x4',
    L__law_good_stand_0 [x0, x1, some (.dat h.d), some (.dat v), x4, x5, x6, x7] = some (if partB h v then (.nx, [x0, x1, some (.dat h.d), some (.dat v), x4', x5, x6, x7]) else (.rt (.bool false), [x0, x1, some (.dat h.d), some (.dat v), x4', x5, x6, x7])) := by
  rcases isN3_or v with ⟨a, b, c, rfl⟩ | h3
  · cases ha : Ty5.is .str a
    · refine ⟨x4, ?_⟩
      rw [if_neg (by rintro ⟨p, _, e⟩; cases e; cases ha)]
      simp [L__law_good_stand_0, callD, callB, callO, args0, sSeq, sIf, sRet, sRetN, sRetO, sDrop, sAsg, sPar, sNx, sBk, sCt, sNever, eVar, eC, e1, e2, eIf, asB, eAnd, eOr, tAndM, tOrM, dNot, tNotB, aNil, aCons, mkT_ok, mkL_ok, gName, gsNil, gsCons, gTup, gLst, eChain, oNone, oSome, eSl, dIsi, dIsi2, tYesM, ha]
    cases hc : Ty5.is .str c
    · refine ⟨x4, ?_⟩
      rw [if_neg (by rintro ⟨p, _, e⟩; cases e; cases hc)]
      simp [L__law_good_stand_0, callD, callB, callO, args0, sSeq, sIf, sRet, sRetN, sRetO, sDrop, sAsg, sPar, sNx, sBk, sCt, sNever, eVar, eC, e1, e2, eIf, asB, eAnd, eOr, tAndM, tOrM, dNot, tNotB, aNil, aCons, mkT_ok, mkL_ok, gName, gsNil, gsCons, gTup, gLst, eChain, oNone, oSome, eSl, dIsi, dIsi2, tYesM, ha, hc]
    cases a <;> simp at ha
    cases c <;> simp at hc
    rename_i x y
    cases hx : mode? x with
    | none =>
      refine ⟨x4, ?_⟩
      rw [if_neg (by rintro ⟨p, _, e⟩; cases e; simp at hx)]
      simp [L__law_good_stand_0, callD, callB, callO, args0, sSeq, sIf, sRet, sRetN, sRetO, sDrop, sAsg, sPar, sNx, sBk, sCt, sNever, eVar, eC, e1, e2, eIf, asB, eAnd, eOr, tAndM, tOrM, dNot, tNotB, aNil, aCons, mkT_ok, mkL_ok, gName, gsNil, gsCons, gTup, gLst, eChain, oNone, oSome, eSl, dIsi, dIsi2, tYesM, inHgL, inModeL, hx, strQ, strP, strNo, strTo, strWh]
    | some m =>
      cases hy : hg? y with
      | none =>
        refine ⟨x4, ?_⟩
        rw [if_neg (by rintro ⟨p, _, e⟩; cases e; simp at hy)]
        simp [L__law_good_stand_0, callD, callB, callO, args0, sSeq, sIf, sRet, sRetN, sRetO, sDrop, sAsg, sPar, sNx, sBk, sCt, sNever, eVar, eC, e1, e2, eIf, asB, eAnd, eOr, tAndM, tOrM, dNot, tNotB, aNil, aCons, mkT_ok, mkL_ok, gName, gsNil, gsCons, gTup, gLst, eChain, oNone, oSome, eSl, dIsi, dIsi2, tYesM, inHgL, inModeL, hx, hy, strQ, strP, strNo, strTo, strWh]
      | some g =>
        have k1 := mode_some hx
        have k2 := hg_some hy
        subst k1 k2
        cases m
        · refine ⟨some (.dat (.tuple [.int 0, .int h.w1])), ?_⟩
          have k3 : partB h (.tuple [.str (modeS false), b, .str g.s]) ↔ inB 0 h.w1 b = true := by
            constructor
            · rintro ⟨p, o, q⟩
              simp only [Prt.d, PyData.tuple.injEq, List.cons.injEq, PyData.str.injEq, mode_inj] at q
              obtain ⟨q1, rfl, q3⟩ := q
              unfold Prt.Ok at o
              rw [← q1] at o
              simpa using o
            · intro q
              obtain ⟨i, rfl, h1, h2⟩ := inB_some q
              exact ⟨⟨false, i, g⟩, ⟨h1, h2⟩, rfl⟩
          simp only [k3]
          cases hb : inB 0 h.w1 b <;> simp [L__law_good_stand_0, callD, callB, callO, args0, sSeq, sIf, sRet, sRetN, sRetO, sDrop, sAsg, sPar, sNx, sBk, sCt, sNever, eVar, eC, e1, e2, eIf, asB, eAnd, eOr, tAndM, tOrM, dNot, tNotB, aNil, aCons, mkT_ok, mkL_ok, gName, gsNil, gsCons, gTup, gLst, eChain, oNone, oSome, eSl, dIsi, dIsi2, tYesM, inHgL, inModeL, hx, hy, strQ, strP, strNo, strTo, strWh, Hab.d, hb]
        · refine ⟨some (.dat (.tuple [.int 1, .int (h.s1 - 1)])), ?_⟩
          have k3 : partB h (.tuple [.str (modeS true), b, .str g.s]) ↔ inB 1 (h.s1 - 1) b = true := by
            constructor
            · rintro ⟨p, o, q⟩
              simp only [Prt.d, PyData.tuple.injEq, List.cons.injEq, PyData.str.injEq, mode_inj] at q
              obtain ⟨q1, rfl, q3⟩ := q
              unfold Prt.Ok at o
              rw [← q1] at o
              simpa using o
            · intro q
              obtain ⟨i, rfl, h1, h2⟩ := inB_some q
              exact ⟨⟨true, i, g⟩, ⟨h1, h2⟩, rfl⟩
          simp only [k3]
          cases hb : inB 1 (h.s1 - 1) b <;> simp [L__law_good_stand_0, callD, callB, callO, args0, sSeq, sIf, sRet, sRetN, sRetO, sDrop, sAsg, sPar, sNx, sBk, sCt, sNever, eVar, eC, e1, e2, eIf, asB, eAnd, eOr, tAndM, tOrM, dNot, tNotB, aNil, aCons, mkT_ok, mkL_ok, gName, gsNil, gsCons, gTup, gLst, eChain, oNone, oSome, eSl, dIsi, dIsi2, tYesM, inHgL, inModeL, hx, hy, strQ, strP, strNo, strTo, strWh, Hab.d, hb]
  · refine ⟨x4, ?_⟩
    rw [if_neg (by rintro ⟨p, _, e⟩; subst e; cases h3)]
    simp [L__law_good_stand_0, callD, callB, callO, args0, sSeq, sIf, sRet, sRetN, sRetO, sDrop, sAsg, sPar, sNx, sBk, sCt, sNever, eVar, eC, e1, e2, eIf, asB, eAnd, eOr, tAndM, tOrM, dNot, tNotB, aNil, aCons, mkT_ok, mkL_ok, gName, gsNil, gsCons, gTup, gLst, eChain, oNone, oSome, eSl, dIsi, dIsi2, tYesM, h3]
def standB (p : Pln) (v : D) : Prop := ∃ s : Std, s.Ok p ∧ v = s.d
theorem standB_iff {p : Pln} {a b l m : D} : standB p (.tuple [.tuple [a, b], .tuple [l, m]]) ↔ partB p.a a ∧ partB p.b b ∧ lineB p.x l ∧ lineB p.y m := by
  constructor
  · rintro ⟨s, o, e⟩
    simp only [Std.d, PyData.tuple.injEq, List.cons.injEq] at e
    obtain ⟨⟨rfl, rfl, -⟩, ⟨rfl, rfl, -⟩, -⟩ := e
    exact ⟨⟨_, o.okp, rfl⟩, ⟨_, o.okq, rfl⟩, ⟨_, o.okl, rfl⟩, ⟨_, o.okm, rfl⟩⟩
  · rintro ⟨⟨p1, o1, rfl⟩, ⟨p2, o2, rfl⟩, ⟨l1, o3, rfl⟩, ⟨l2, o4, rfl⟩⟩
    exact ⟨⟨p1, p2, l1, l2⟩, ⟨o1, o2, o3, o4⟩, rfl⟩
theorem standB_no1 {p : Pln} {v : D} (h : isN 2 v = false) : ¬ standB p v := by
  rintro ⟨s, o, rfl⟩; cases h
theorem standB_no2 {p : Pln} {a b : D} (h : isN 2 a = false) : ¬ standB p (.tuple [a, b]) := by
  rintro ⟨s, o, e⟩; cases e; cases h
theorem standB_no3 {p : Pln} {a b : D} (h : isN 2 b = false) : ¬ standB p (.tuple [a, b]) := by
  rintro ⟨s, o, e⟩; cases e; cases h
theorem planD {p : Pln} : p.d = .tuple [.tuple [p.a.d, p.b.d], .tuple [.int p.x, .int p.y], .bool p.ov] := rfl
open Classical in
theorem law_good_stand_eq {p : Pln} (o : p.Sh) (v : D) : F__law_good_stand [p.d, v] = some (.bool (decide (standB p v))) := by
  have no : ∀ v, ¬ standB p v → decide (standB p v) = false := fun v h => decide_eq_false h
  have hx : p.x ≤ 100000 := Int.le_trans o.x2 (by decide)
  have hy : p.y ≤ 100000 := Int.le_trans o.y2 (by decide)
  rw [planD]
  rcases isN2_or v with ⟨A, B, rfl⟩ | h
  · rcases isN2_or A with ⟨a, b, rfl⟩ | hA
    · rcases isN2_or B with ⟨l, m, rfl⟩ | hB
      · obtain ⟨y1, k1⟩ := gs_part p.a a (some (.dat p.d)) (some (.dat (.tuple [.tuple [a, b], .tuple [l, m]]))) none none none none
        obtain ⟨y2, k2⟩ := gs_part p.b b (some (.dat p.d)) (some (.dat (.tuple [.tuple [a, b], .tuple [l, m]]))) y1 none none none
        have k3 := gs_line p.x hx l (some (.dat p.d)) (some (.dat (.tuple [.tuple [a, b], .tuple [l, m]]))) (some (.dat p.b.d)) (some (.dat b)) y2 none (by intro _ z; cases z)
        have k4 := gs_line p.y hy m (some (.dat p.d)) (some (.dat (.tuple [.tuple [a, b], .tuple [l, m]]))) (some (.dat p.b.d)) (some (.dat b)) y2 none (by intro _ z; cases z)
        rw [planD] at k1 k2 k3 k4
        have k5 : decide (standB p (.tuple [.tuple [a, b], .tuple [l, m]])) = (decide (partB p.a a) && decide (partB p.b b) && decide (lineB p.x l) && decide (lineB p.y m)) := by
          rw [Bool.eq_iff_iff]
          simp only [decide_eq_true_iff, Bool.and_eq_true, standB_iff, and_assoc]
        rw [k5]
        by_cases c1 : partB p.a a
        · by_cases c2 : partB p.b b
          · by_cases c3 : lineB p.x l
            · by_cases c4 : lineB p.y m <;> simp only [c1, c2, c3, c4, if_true, if_false] at k1 k2 k3 k4 <;> simp [F__law_good_stand, B__law_good_stand, callD, callB, callO, args0, sSeq, sIf, sRet, sRetN, sRetO, sDrop, sAsg, sPar, sNx, sBk, sCt, sNever, eVar, eC, e1, e2, eIf, asB, eAnd, eOr, tAndM, tOrM, dNot, tNotB, aNil, aCons, mkT_ok, mkL_ok, gName, gsNil, gsCons, gTup, gLst, eChain, oNone, oSome, eSl, dIsi, dIsi2, tYesM, sFor, forGo, c1, c2, c3, c4, k1, k2, k3, k4]
            · simp only [c1, c2, c3, if_true, if_false] at k1 k2 k3
              simp [F__law_good_stand, B__law_good_stand, callD, callB, callO, args0, sSeq, sIf, sRet, sRetN, sRetO, sDrop, sAsg, sPar, sNx, sBk, sCt, sNever, eVar, eC, e1, e2, eIf, asB, eAnd, eOr, tAndM, tOrM, dNot, tNotB, aNil, aCons, mkT_ok, mkL_ok, gName, gsNil, gsCons, gTup, gLst, eChain, oNone, oSome, eSl, dIsi, dIsi2, tYesM, sFor, forGo, c1, c2, c3, k1, k2, k3]
          · simp only [c1, c2, if_true, if_false] at k1 k2
            simp [F__law_good_stand, B__law_good_stand, callD, callB, callO, args0, sSeq, sIf, sRet, sRetN, sRetO, sDrop, sAsg, sPar, sNx, sBk, sCt, sNever, eVar, eC, e1, e2, eIf, asB, eAnd, eOr, tAndM, tOrM, dNot, tNotB, aNil, aCons, mkT_ok, mkL_ok, gName, gsNil, gsCons, gTup, gLst, eChain, oNone, oSome, eSl, dIsi, dIsi2, tYesM, sFor, forGo, c1, c2, k1, k2]
        · simp only [c1, if_true, if_false] at k1
          simp [F__law_good_stand, B__law_good_stand, callD, callB, callO, args0, sSeq, sIf, sRet, sRetN, sRetO, sDrop, sAsg, sPar, sNx, sBk, sCt, sNever, eVar, eC, e1, e2, eIf, asB, eAnd, eOr, tAndM, tOrM, dNot, tNotB, aNil, aCons, mkT_ok, mkL_ok, gName, gsNil, gsCons, gTup, gLst, eChain, oNone, oSome, eSl, dIsi, dIsi2, tYesM, sFor, forGo, c1, k1]
      · rw [no _ (standB_no3 hB)]
        simp [F__law_good_stand, B__law_good_stand, callD, callB, callO, args0, sSeq, sIf, sRet, sRetN, sRetO, sDrop, sAsg, sPar, sNx, sBk, sCt, sNever, eVar, eC, e1, e2, eIf, asB, eAnd, eOr, tAndM, tOrM, dNot, tNotB, aNil, aCons, mkT_ok, mkL_ok, gName, gsNil, gsCons, gTup, gLst, eChain, oNone, oSome, eSl, dIsi, dIsi2, tYesM, hB]
    · rw [no _ (standB_no2 hA)]
      simp [F__law_good_stand, B__law_good_stand, callD, callB, callO, args0, sSeq, sIf, sRet, sRetN, sRetO, sDrop, sAsg, sPar, sNx, sBk, sCt, sNever, eVar, eC, e1, e2, eIf, asB, eAnd, eOr, tAndM, tOrM, dNot, tNotB, aNil, aCons, mkT_ok, mkL_ok, gName, gsNil, gsCons, gTup, gLst, eChain, oNone, oSome, eSl, dIsi, dIsi2, tYesM, hA]
  · rw [no _ (standB_no1 h)]
    simp [F__law_good_stand, B__law_good_stand, callD, callB, callO, args0, sSeq, sIf, sRet, sRetN, sRetO, sDrop, sAsg, sPar, sNx, sBk, sCt, sNever, eVar, eC, e1, e2, eIf, asB, eAnd, eOr, tAndM, tOrM, dNot, tNotB, aNil, aCons, mkT_ok, mkL_ok, gName, gsNil, gsCons, gTup, gLst, eChain, oNone, oSome, eSl, dIsi, dIsi2, tYesM, h]
open Classical in
theorem fits_eq {p : Pln} (o : p.Sh) (v : D) : F_fits [p.d, v] = some (.bool (decide (standB p v))) := by
  have no : ∀ v, ¬ standB p v → decide (standB p v) = false := fun v h => decide_eq_false h
  have hx : p.x ≤ 100000 := Int.le_trans o.x2 (by decide)
  have hy : p.y ≤ 100000 := Int.le_trans o.y2 (by decide)
  rw [planD]
  rcases isN2_or v with ⟨A, B, rfl⟩ | h
  · rcases isN2_or A with ⟨a, b, rfl⟩ | hA
    · rcases isN2_or B with ⟨l, m, rfl⟩ | hB
      · have k5 : decide (standB p (.tuple [.tuple [a, b], .tuple [l, m]])) = (decide (partB p.a a) && decide (partB p.b b) && decide (lineB p.x l) && decide (lineB p.y m)) := by
          rw [Bool.eq_iff_iff]
          simp only [decide_eq_true_iff, Bool.and_eq_true, standB_iff, and_assoc]
        rw [k5]
        by_cases c1 : partB p.a a <;> by_cases c2 : partB p.b b <;> simp [F_fits, B_fits, callD, callB, callO, args0, sSeq, sIf, sRet, sRetN, sRetO, sDrop, sAsg, sPar, sNx, sBk, sCt, sNever, eVar, eC, e1, e2, eIf, asB, eAnd, eOr, tAndM, tOrM, dNot, tNotB, aNil, aCons, mkT_ok, mkL_ok, gName, gsNil, gsCons, gTup, gLst, eChain, oNone, oSome, eSl, dIsi, dIsi2, tYesM, most, eLc, okW, isOl, lcGo, wipeR, restR, fAll, boolsD, sFor, forGo, is_part_eq, is_line_eq, hx, hy, c1, c2]
      · rw [no _ (standB_no3 hB)]
        cases B with
        | tuple ds =>
          simp [isN] at hB
          simp [F_fits, B_fits, callD, callB, callO, args0, sSeq, sIf, sRet, sRetN, sRetO, sDrop, sAsg, sPar, sNx, sBk, sCt, sNever, eVar, eC, e1, e2, eIf, asB, eAnd, eOr, tAndM, tOrM, dNot, tNotB, aNil, aCons, mkT_ok, mkL_ok, gName, gsNil, gsCons, gTup, gLst, eChain, oNone, oSome, eSl, dIsi, dIsi2, tYesM, most, eLc, okW, isOl, lcGo, wipeR, restR, fAll, boolsD, sFor, forGo, hB]
        | _ => simp [F_fits, B_fits, callD, callB, callO, args0, sSeq, sIf, sRet, sRetN, sRetO, sDrop, sAsg, sPar, sNx, sBk, sCt, sNever, eVar, eC, e1, e2, eIf, asB, eAnd, eOr, tAndM, tOrM, dNot, tNotB, aNil, aCons, mkT_ok, mkL_ok, gName, gsNil, gsCons, gTup, gLst, eChain, oNone, oSome, eSl, dIsi, dIsi2, tYesM, most, eLc, okW, isOl, lcGo, wipeR, restR, fAll, boolsD, sFor, forGo]
    · rw [no _ (standB_no2 hA)]
      cases A with
      | tuple ds =>
        simp [isN] at hA
        cases B <;> simp [F_fits, B_fits, callD, callB, callO, args0, sSeq, sIf, sRet, sRetN, sRetO, sDrop, sAsg, sPar, sNx, sBk, sCt, sNever, eVar, eC, e1, e2, eIf, asB, eAnd, eOr, tAndM, tOrM, dNot, tNotB, aNil, aCons, mkT_ok, mkL_ok, gName, gsNil, gsCons, gTup, gLst, eChain, oNone, oSome, eSl, dIsi, dIsi2, tYesM, most, eLc, okW, isOl, lcGo, wipeR, restR, fAll, boolsD, sFor, forGo, hA]
      | _ => cases B <;> simp [F_fits, B_fits, callD, callB, callO, args0, sSeq, sIf, sRet, sRetN, sRetO, sDrop, sAsg, sPar, sNx, sBk, sCt, sNever, eVar, eC, e1, e2, eIf, asB, eAnd, eOr, tAndM, tOrM, dNot, tNotB, aNil, aCons, mkT_ok, mkL_ok, gName, gsNil, gsCons, gTup, gLst, eChain, oNone, oSome, eSl, dIsi, dIsi2, tYesM, most, eLc, okW, isOl, lcGo, wipeR, restR, fAll, boolsD, sFor, forGo]
  · rw [no _ (standB_no1 h)]
    cases v with
    | tuple ds =>
      simp [isN] at h
      have : ds.length ≠ 2 := by omega
      simp [F_fits, B_fits, callD, callB, callO, args0, sSeq, sIf, sRet, sRetN, sRetO, sDrop, sAsg, sPar, sNx, sBk, sCt, sNever, eVar, eC, e1, e2, eIf, asB, eAnd, eOr, tAndM, tOrM, dNot, tNotB, aNil, aCons, mkT_ok, mkL_ok, gName, gsNil, gsCons, gTup, gLst, eChain, oNone, oSome, eSl, dIsi, dIsi2, tYesM, most, eLc, okW, isOl, lcGo, wipeR, restR, fAll, boolsD, sFor, forGo, h, this]
    | _ => simp [F_fits, B_fits, callD, callB, callO, args0, sSeq, sIf, sRet, sRetN, sRetO, sDrop, sAsg, sPar, sNx, sBk, sCt, sNever, eVar, eC, e1, e2, eIf, asB, eAnd, eOr, tAndM, tOrM, dNot, tNotB, aNil, aCons, mkT_ok, mkL_ok, gName, gsNil, gsCons, gTup, gLst, eChain, oNone, oSome, eSl, dIsi, dIsi2, tYesM, most, eLc, okW, isOl, lcGo, wipeR, restR, fAll, boolsD, sFor, forGo]
open Classical in
theorem is_stand_eq {p : Pln} (o : p.Ok) (v : D) : F_is_stand [p.d, v] = some (.bool (decide (standB p v))) := by
  have k1 := fits_eq o.toSh v
  have k2 := look_at_plan_yes o
  simp [F_is_stand, B_is_stand, callD, callB, callO, args0, sSeq, sIf, sRet, sRetN, sRetO, sDrop, sAsg, sPar, sNx, sBk, sCt, sNever, eVar, eC, e1, e2, eIf, asB, eAnd, eOr, tAndM, tOrM, dNot, tNotB, aNil, aCons, mkT_ok, mkL_ok, gName, gsNil, gsCons, gTup, gLst, eChain, oNone, oSome, eSl, dIsi, dIsi2, tYesM, k1, k2]
/-! ### the first stand -/
def quietP : Prt := ⟨false, 0, .none⟩
def Pln.first (p : Pln) : Std := ⟨quietP, quietP, List.replicate p.x.toNat 0, List.replicate p.y.toNat 0⟩
theorem rep_line {n : Int} (h0 : 0 ≤ n) (h1 : n ≤ 3) : dMul (.tuple [.int 0]) (.int n) = some (lineD (List.replicate n.toNat 0)) := by
  have : n = 0 ∨ n = 1 ∨ n = 2 ∨ n = 3 := by omega
  rcases this with rfl | rfl | rfl | rfl <;> rfl
theorem law_first_eq {p : Pln} (o : p.Sh) : F__law_first [p.d] = some p.first.d := by
  have k1 := rep_line (n := p.x) (Int.le_trans (by decide) o.x1) o.x2
  have k2 := rep_line (n := p.y) (Int.le_trans (by decide) o.y1) o.y2
  simp [F__law_first, B__law_first, callD, callB, callO, args0, sSeq, sIf, sRet, sRetN, sRetO, sDrop, sAsg, sPar, sNx, sBk, sCt, sNever, eVar, eC, e1, e2, eIf, asB, eAnd, eOr, tAndM, tOrM, dNot, tNotB, aNil, aCons, mkT_ok, mkL_ok, gName, gsNil, gsCons, gTup, gLst, eChain, oNone, oSome, eSl, dIsi, dIsi2, tYesM, planD, k1, k2, Pln.first, Std.d, Prt.d, quietP, modeS, Hg.s]
theorem begin_of_eq {p : Pln} (o : p.Sh) : F_begin_of [p.d] = some p.first.d := by
  have k1 := rep_line (n := p.x) (Int.le_trans (by decide) o.x1) o.x2
  have k2 := rep_line (n := p.y) (Int.le_trans (by decide) o.y1) o.y2
  have k3 : ∀ a : D, dMul (.tuple [a]) (.int 2) = some (.tuple [a, a]) := fun a => rfl
  simp [F_begin_of, B_begin_of, callD, callB, callO, args0, sSeq, sIf, sRet, sRetN, sRetO, sDrop, sAsg, sPar, sNx, sBk, sCt, sNever, eVar, eC, e1, e2, eIf, asB, eAnd, eOr, tAndM, tOrM, dNot, tNotB, aNil, aCons, mkT_ok, mkL_ok, gName, gsNil, gsCons, gTup, gLst, eChain, oNone, oSome, eSl, dIsi, dIsi2, tYesM, most, eLc, okW, isOl, lcGo, wipeR, restR, fAll, boolsD, sFor, forGo, planD, k1, k2, k3, Pln.first, Std.d, Prt.d, quietP, modeS, Hg.s, c_QUIET, fTuple]
theorem first_stand_eq {p : Pln} (o : p.Ok) : F_first_stand [p.d] = some p.first.d := by
  have k1 := begin_of_eq o.toSh
  have k2 := look_at_plan_yes o
  simp [F_first_stand, B_first_stand, callD, callB, callO, args0, sSeq, sIf, sRet, sRetN, sRetO, sDrop, sAsg, sPar, sNx, sBk, sCt, sNever, eVar, eC, e1, e2, eIf, asB, eAnd, eOr, tAndM, tOrM, dNot, tNotB, aNil, aCons, mkT_ok, mkL_ok, gName, gsNil, gsCons, gTup, gLst, eChain, oNone, oSome, eSl, dIsi, dIsi2, tYesM, k1, k2]
theorem first_ok {p : Pln} (o : p.Sh) : p.first.Ok p := by
  obtain ⟨⟨a1, a2, a3, b1, b2, b3⟩, ⟨c1, c2, c3, d1, d2, d3⟩, x1, x2, y1, y2⟩ := o
  refine ⟨⟨(Int.le_refl 0 : (0 : Int) ≤ 0), ?_⟩, ⟨(Int.le_refl 0 : (0 : Int) ≤ 0), ?_⟩, ⟨?_, ?_⟩, ⟨?_, ?_⟩⟩
  · show 0 ≤ p.a.w1; omega
  · show 0 ≤ p.b.w1; omega
  · simp [Pln.first]; omega
  · intro i hi; have := List.eq_of_mem_replicate hi; omega
  · simp [Pln.first]; omega
  · intro i hi; have := List.eq_of_mem_replicate hi; omega
end VS

namespace VS
open PySem PySem.Spec PyProof.Rows L2

/-! ### what a talker may choose -/
def opts (h : Hab) (p : Prt) : List Bool :=
  if p.sp then (if p.n + 1 = h.s1 then [] else [false]) ++ (if h.s0 ≤ p.n + 1 then [true] else [])
  else (if h.eg && decide (p.n = h.w1) then [] else [false]) ++ (if h.w0 ≤ p.n then [true] else [])
def blD (l : List Bool) : D := .list (l.map .bool)
@[simp] theorem mulB0 {a : D} : dMul (.list [a]) (.int 0) = some (.list []) := rfl
@[simp] theorem mulB1 {a : D} : dMul (.list [a]) (.int 1) = some (.list [a]) := rfl
@[simp] theorem mulT0 {a : D} : dMul (.tuple [a]) (.int 0) = some (.tuple []) := rfl
@[simp] theorem mulT1 {a : D} : dMul (.tuple [a]) (.int 1) = some (.tuple [a]) := rfl
theorem addL {a b : List D} (h : a.length + b.length ≤ most) : dAdd (.list a) (.list b) = some (.list (a ++ b)) := (orE_none rfl).trans ((orE_none rfl).trans (orE_some (if_pos h)))
theorem addT {a b : List D} (h : a.length + b.length ≤ most) : dAdd (.tuple a) (.tuple b) = some (.tuple (a ++ b)) := (orE_none rfl).trans (orE_some (if_pos h))
@[simp] theorem addL00 : dAdd (.list []) (.list []) = some (.list []) := addL (by decide)
@[simp] theorem addL01 {a : D} : dAdd (.list []) (.list [a]) = some (.list [a]) := addL (Nat.le_of_ble_eq_true rfl)
@[simp] theorem addL10 {a : D} : dAdd (.list [a]) (.list []) = some (.list [a]) := addL (Nat.le_of_ble_eq_true rfl)
@[simp] theorem addL11 {a b : D} : dAdd (.list [a]) (.list [b]) = some (.list [a, b]) := addL (Nat.le_of_ble_eq_true rfl)
@[simp] theorem addL02 {a b : D} : dAdd (.list []) (.list [a, b]) = some (.list [a, b]) := addL (Nat.le_of_ble_eq_true rfl)
@[simp] theorem addL22 {a b c d : D} : dAdd (.list [a, b]) (.list [c, d]) = some (.list [a, b, c, d]) := addL (Nat.le_of_ble_eq_true rfl)
@[simp] theorem addT00 : dAdd (.tuple []) (.tuple []) = some (.tuple []) := addT (by decide)
@[simp] theorem addT01 {a : D} : dAdd (.tuple []) (.tuple [a]) = some (.tuple [a]) := addT (Nat.le_of_ble_eq_true rfl)
@[simp] theorem addT10 {a : D} : dAdd (.tuple [a]) (.tuple []) = some (.tuple [a]) := addT (Nat.le_of_ble_eq_true rfl)
@[simp] theorem addT11 {a b : D} : dAdd (.tuple [a]) (.tuple [b]) = some (.tuple [a, b]) := addT (Nat.le_of_ble_eq_true rfl)
@[simp] theorem mulBi {a : D} {c : Prop} [Decidable c] : dMul (.list [a]) (.int (if c then 1 else 0)) = some (.list (if c then [a] else [])) := by by_cases h : c <;> simp [h]
@[simp] theorem mulTi {a : D} {c : Prop} [Decidable c] : dMul (.tuple [a]) (.int (if c then 1 else 0)) = some (.tuple (if c then [a] else [])) := by by_cases h : c <;> simp [h]
@[simp] theorem addS {a b : D} {c d : Prop} [Decidable c] [Decidable d] : dAdd (.list (if c then [a] else [])) (.list (if d then [b] else [])) = some (.list ((if c then [a] else []) ++ (if d then [b] else []))) := by by_cases h : c <;> by_cases h2 : d <;> simp [h, h2]
@[simp] theorem addSn {a b : D} {c d : Prop} [Decidable c] [Decidable d] : dAdd (.list (if c then [] else [a])) (.list (if d then [b] else [])) = some (.list ((if c then [] else [a]) ++ (if d then [b] else []))) := by by_cases h : c <;> by_cases h2 : d <;> simp [h, h2]
@[simp] theorem addS1 {a b : D} {d : Prop} [Decidable d] : dAdd (.list [a]) (.list (if d then [b] else [])) = some (.list (a :: (if d then [b] else []))) := by by_cases h2 : d <;> simp [h2]
@[simp] theorem addS0 {b : D} {d : Prop} [Decidable d] : dAdd (.list []) (.list (if d then [b] else [])) = some (.list (if d then [b] else [])) := by by_cases h2 : d <;> simp [h2]
@[simp] theorem mapI {b : Bool} {c : Prop} [Decidable c] : List.map PyData.bool (if c then [b] else []) = if c then [.bool b] else [] := by split <;> rfl
theorem law_options_eq (h : Hab) (p : Prt) : F__law_options [h.d, p.d] = some (blD (opts h p)) := by
  obtain ⟨sp, n, g⟩ := p
  cases sp
  · cases he : h.eg
    · simp [F__law_options, B__law_options, callD, callB, callO, args0, sSeq, sIf, sRet, sRetN, sRetO, sDrop, sAsg, sPar, sNx, sBk, sCt, sNever, eVar, eC, e1, e2, eIf, asB, eAnd, eOr, tAndM, tOrM, dNot, tNotB, aNil, aCons, mkT_ok, mkL_ok, gName, gsNil, gsCons, gTup, gLst, eChain, oNone, oSome, eSl, dIsi, dIsi2, tYesM, Hab.d, Prt.d, strQ, opts, blD, he]
    · simp [F__law_options, B__law_options, callD, callB, callO, args0, sSeq, sIf, sRet, sRetN, sRetO, sDrop, sAsg, sPar, sNx, sBk, sCt, sNever, eVar, eC, e1, e2, eIf, asB, eAnd, eOr, tAndM, tOrM, dNot, tNotB, aNil, aCons, mkT_ok, mkL_ok, gName, gsNil, gsCons, gTup, gLst, eChain, oNone, oSome, eSl, dIsi, dIsi2, tYesM, Hab.d, Prt.d, strQ, opts, blD, he]
      by_cases c2 : n = h.w1 <;> simp [c2]
  · simp [F__law_options, B__law_options, callD, callB, callO, args0, sSeq, sIf, sRet, sRetN, sRetO, sDrop, sAsg, sPar, sNx, sBk, sCt, sNever, eVar, eC, e1, e2, eIf, asB, eAnd, eOr, tAndM, tOrM, dNot, tNotB, aNil, aCons, mkT_ok, mkL_ok, gName, gsNil, gsCons, gTup, gLst, eChain, oNone, oSome, eSl, dIsi, dIsi2, tYesM, Hab.d, Prt.d, strQ, opts, blD]
    by_cases c2 : n + 1 = h.s1 <;> simp [c2]
theorem ways_of_eq {h : Hab} {p : Prt} (o : p.Ok h) : F_ways_of [h.d, p.d] = some (blD (opts h p)) := by
  obtain ⟨sp, n, g⟩ := p
  cases sp
  · have o1 : n ≤ h.w1 := o.2
    have k1 : n < h.w1 ↔ ¬ n = h.w1 := ⟨fun _ => by omega, fun _ => by omega⟩
    cases he : h.eg
    · simp [F_ways_of, B_ways_of, callD, callB, callO, args0, sSeq, sIf, sRet, sRetN, sRetO, sDrop, sAsg, sPar, sNx, sBk, sCt, sNever, eVar, eC, e1, e2, eIf, asB, eAnd, eOr, tAndM, tOrM, dNot, tNotB, aNil, aCons, mkT_ok, mkL_ok, gName, gsNil, gsCons, gTup, gLst, eChain, oNone, oSome, eSl, dIsi, dIsi2, tYesM, Hab.d, Prt.d, c_QUIET_eq, opts, blD, he, k1]
    · simp [F_ways_of, B_ways_of, callD, callB, callO, args0, sSeq, sIf, sRet, sRetN, sRetO, sDrop, sAsg, sPar, sNx, sBk, sCt, sNever, eVar, eC, e1, e2, eIf, asB, eAnd, eOr, tAndM, tOrM, dNot, tNotB, aNil, aCons, mkT_ok, mkL_ok, gName, gsNil, gsCons, gTup, gLst, eChain, oNone, oSome, eSl, dIsi, dIsi2, tYesM, Hab.d, Prt.d, c_QUIET_eq, opts, blD, he, k1]
      by_cases c2 : n = h.w1 <;> simp [c2]
  · have o1 : n ≤ h.s1 - 1 := o.2
    have k1 : n + 1 < h.s1 ↔ ¬ n + 1 = h.s1 := ⟨fun _ => by omega, fun _ => by omega⟩
    simp [F_ways_of, B_ways_of, callD, callB, callO, args0, sSeq, sIf, sRet, sRetN, sRetO, sDrop, sAsg, sPar, sNx, sBk, sCt, sNever, eVar, eC, e1, e2, eIf, asB, eAnd, eOr, tAndM, tOrM, dNot, tNotB, aNil, aCons, mkT_ok, mkL_ok, gName, gsNil, gsCons, gTup, gLst, eChain, oNone, oSome, eSl, dIsi, dIsi2, tYesM, Hab.d, Prt.d, c_QUIET_eq, opts, blD, k1]
    by_cases c2 : n + 1 = h.s1 <;> simp [c2]
/-! ### choices -/
def chs (p : Pln) (s : Std) : List (Bool × Bool) := (opts p.a s.p).flatMap fun x => (opts p.b s.q).map fun y => (x, y)
def prD (c : Bool × Bool) : D := .tuple [.bool c.1, .bool c.2]
def chD (l : List (Bool × Bool)) : D := .list (l.map prD)
theorem opts_cases (h : Hab) (p : Prt) : opts h p = [] ∨ opts h p = [false] ∨ opts h p = [true] ∨ opts h p = [false, true] := by
  unfold opts
  split <;> split <;> split <;> simp
theorem opts_ne {h : Hab} {p : Prt} (k : h.Ok) (o : p.Ok h) : opts h p ≠ [] := by
  obtain ⟨sp, n, g⟩ := p
  obtain ⟨a1, a2, a3, b1, b2, b3⟩ := k
  cases sp
  · have o1 : n ≤ h.w1 := o.2
    unfold opts
    simp
    intro _ q; omega
  · unfold opts
    simp
    intro q; omega
theorem law_choices_eq (p : Pln) (s : Std) : F__law_choices [p.d, s.d] = some (chD (chs p s)) := by
  have k1 := law_options_eq p.a s.p
  have k2 := law_options_eq p.b s.q
  rcases opts_cases p.a s.p with h1 | h1 | h1 | h1 <;> rcases opts_cases p.b s.q with h2 | h2 | h2 | h2 <;> rw [h1] at k1 <;> rw [h2] at k2 <;> simp only [blD, List.map] at k1 k2 <;>
    simp [F__law_choices, B__law_choices, L__law_choices_0, callD, callB, callO, args0, sSeq, sIf, sRet, sRetN, sRetO, sDrop, sAsg, sPar, sNx, sBk, sCt, sNever, eVar, eC, e1, e2, eIf, asB, eAnd, eOr, tAndM, tOrM, dNot, tNotB, aNil, aCons, mkT_ok, mkL_ok, gName, gsNil, gsCons, gTup, gLst, eChain, oNone, oSome, eSl, dIsi, dIsi2, tYesM, most, eLc, okW, isOl, lcGo, wipeR, restR, fAll, boolsD, sFor, forGo, planD, Std.d, k1, k2, chs, h1, h2, chD, prD, List.flatMap]
theorem choices_of_eq {p : Pln} {s : Std} (o : s.Ok p) : F_choices_of [p.d, s.d] = some (chD (chs p s)) := by
  have k1 := ways_of_eq o.okp
  have k2 := ways_of_eq o.okq
  rcases opts_cases p.a s.p with h1 | h1 | h1 | h1 <;> rcases opts_cases p.b s.q with h2 | h2 | h2 | h2 <;> rw [h1] at k1 <;> rw [h2] at k2 <;> simp only [blD, List.map] at k1 k2 <;>
    simp [F_choices_of, B_choices_of, callD, callB, callO, args0, sSeq, sIf, sRet, sRetN, sRetO, sDrop, sAsg, sPar, sNx, sBk, sCt, sNever, eVar, eC, e1, e2, eIf, asB, eAnd, eOr, tAndM, tOrM, dNot, tNotB, aNil, aCons, mkT_ok, mkL_ok, gName, gsNil, gsCons, gTup, gLst, eChain, oNone, oSome, eSl, dIsi, dIsi2, tYesM, most, eLc, okW, isOl, lcGo, wipeR, restR, fAll, boolsD, sFor, forGo, eLc2, lc2Go, lcIn, planD, Std.d, k1, k2, chs, h1, h2, chD, prD, List.flatMap]
theorem chs_mem {p : Pln} {s : Std} {c : Bool × Bool} : c ∈ chs p s ↔ c.1 ∈ opts p.a s.p ∧ c.2 ∈ opts p.b s.q := by
  unfold chs
  simp only [List.mem_flatMap, List.mem_map]
  constructor
  · rintro ⟨x, hx, y, hy, rfl⟩; exact ⟨hx, hy⟩
  · rintro ⟨h1, h2⟩; exact ⟨_, h1, _, h2, rfl⟩
theorem chs_len (p : Pln) (s : Std) : (chs p s).length ≤ 4 := by
  rcases opts_cases p.a s.p with h1 | h1 | h1 | h1 <;> rcases opts_cases p.b s.q with h2 | h2 | h2 | h2 <;> simp [chs, h1, h2, List.flatMap]
theorem chs_ne {p : Pln} {s : Std} (k : p.Sh) (o : s.Ok p) : 0 < (chs p s).length := by
  have n1 := opts_ne k.a o.okp
  have n2 := opts_ne k.b o.okq
  rcases opts_cases p.a s.p with h1 | h1 | h1 | h1 <;> rcases opts_cases p.b s.q with h2 | h2 | h2 | h2 <;> simp [h1, h2] at n1 n2 <;> simp [chs, h1, h2, List.flatMap]

/-! ### one tick -/
def voice (p : Prt) (c : Bool) : Int := if p.sp then (if c then 3 else 2) else (if c then 1 else 0)
theorem voice_rng (p : Prt) (c : Bool) : 0 ≤ voice p c ∧ voice p c ≤ 3 := by
  obtain ⟨sp, n, g⟩ := p; cases sp <;> cases c <;> simp [voice]
theorem law_voice_eq (p : Prt) (c : Bool) : F__law_voice [p.d, .bool c] = some (.int (voice p c)) := by
  obtain ⟨sp, n, g⟩ := p
  cases sp <;> cases c <;> simp [F__law_voice, B__law_voice, callD, callB, callO, args0, sSeq, sIf, sRet, sRetN, sRetO, sDrop, sAsg, sPar, sNx, sBk, sCt, sNever, eVar, eC, e1, e2, eIf, asB, eAnd, eOr, tAndM, tOrM, dNot, tNotB, aNil, aCons, mkT_ok, mkL_ok, gName, gsNil, gsCons, gTup, gLst, eChain, oNone, oSome, eSl, dIsi, dIsi2, tYesM, Prt.d, strP, voice]
theorem sign_of_eq (p : Prt) (c : Bool) : F_sign_of [p.d, .bool c] = some (.int (voice p c)) := by
  obtain ⟨sp, n, g⟩ := p
  cases sp <;> cases c <;> simp [F_sign_of, B_sign_of, callD, callB, callO, args0, sSeq, sIf, sRet, sRetN, sRetO, sDrop, sAsg, sPar, sNx, sBk, sCt, sNever, eVar, eC, e1, e2, eIf, asB, eAnd, eOr, tAndM, tOrM, dNot, tNotB, aNil, aCons, mkT_ok, mkL_ok, gName, gsNil, gsCons, gTup, gLst, eChain, oNone, oSome, eSl, dIsi, dIsi2, tYesM, Prt.d, c_QUIET_eq, voice]
def ears (voice ear : Int) (g : Hg) : Hg := if ear = 0 then .none else if 0 < voice ∨ (1 < ear ∧ g = .none) then .torn else if ear = 1 then .whole else g
def led (h : Hab) (p : Prt) (voice ear : Int) (over : Bool) : Prt × Bool :=
  let g1 := ears voice ear p.g
  let done := decide (ear = 3) && decide (g1 = .whole)
  let g2 := if ear = 3 then .none else g1
  (if voice = 3 ∨ (0 < voice ∧ h.st = true ∧ 0 < ear) then ⟨false, 0, g2⟩
   else if 0 < voice then ⟨true, if p.sp then p.n + 1 else 1, g2⟩
   else if ear = 0 then ⟨false, if h.w1 < p.n + 1 then h.w1 else p.n + 1, g2⟩
   else ⟨false, if (done && over) = true then h.w0 else 0, g2⟩, done)
theorem law_led_eq (h : Hab) (k : h.Ok) (p : Prt) (v e : Int) (v0 : 0 ≤ v) (v1 : v ≤ 3) (h0 : 0 ≤ e) (h1 : e ≤ 3) (over : Bool) : F__law_led [h.d, p.d, .int v, .int e, .bool over] = some (.tuple [(led h p v e over).1.d, .bool (led h p v e over).2]) := by
  obtain ⟨sp, n, g⟩ := p
  have m0 : ∀ i, dMul (.int i) (.int 0) = some (.int 0) := fun i => by rw [mulSmall (by decide) (by decide)]; simp
  have m1 : ∀ i, dMul (.int i) (.int 1) = some (.int i) := fun i => by rw [mulSmall (by decide) (by decide)]; simp
  have mi : ∀ w (c : Prop) [Decidable c], dMul (.int w) (.int (if c then 1 else 0)) = some (.int (if c then w else 0)) := fun w c _ => by split <;> simp [m0, m1]
  have v4 := cases4 v0 (by omega)
  have e4 := cases4 h0 (by omega)
  rcases v4 with rfl | rfl | rfl | rfl
  · rcases e4 with rfl | rfl | rfl | rfl <;> cases g <;>
      simp [F__law_led, B__law_led, callD, callB, callO, args0, sSeq, sIf, sRet, sRetN, sRetO, sDrop, sAsg, sPar, sNx, sBk, sCt, sNever, eVar, eC, e1, e2, eIf, asB, eAnd, eOr, tAndM, tOrM, dNot, tNotB, aNil, aCons, mkT_ok, mkL_ok, gName, gsNil, gsCons, gTup, gLst, eChain, oNone, oSome, eSl, dIsi, dIsi2, tYesM, Hab.d, Prt.d, strQ, strP, strNo, strTo, strWh, led, ears, m0, m1, mi]
  · rcases e4 with rfl | rfl | rfl | rfl <;> cases g <;> cases sp <;> cases hst : h.st <;>
      simp [F__law_led, B__law_led, callD, callB, callO, args0, sSeq, sIf, sRet, sRetN, sRetO, sDrop, sAsg, sPar, sNx, sBk, sCt, sNever, eVar, eC, e1, e2, eIf, asB, eAnd, eOr, tAndM, tOrM, dNot, tNotB, aNil, aCons, mkT_ok, mkL_ok, gName, gsNil, gsCons, gTup, gLst, eChain, oNone, oSome, eSl, dIsi, dIsi2, tYesM, Hab.d, Prt.d, strQ, strP, strNo, strTo, strWh, led, ears, m0, m1, mi, hst]
  · rcases e4 with rfl | rfl | rfl | rfl <;> cases g <;> cases sp <;> cases hst : h.st <;>
      simp [F__law_led, B__law_led, callD, callB, callO, args0, sSeq, sIf, sRet, sRetN, sRetO, sDrop, sAsg, sPar, sNx, sBk, sCt, sNever, eVar, eC, e1, e2, eIf, asB, eAnd, eOr, tAndM, tOrM, dNot, tNotB, aNil, aCons, mkT_ok, mkL_ok, gName, gsNil, gsCons, gTup, gLst, eChain, oNone, oSome, eSl, dIsi, dIsi2, tYesM, Hab.d, Prt.d, strQ, strP, strNo, strTo, strWh, led, ears, m0, m1, mi, hst]
  · rcases e4 with rfl | rfl | rfl | rfl <;> cases g <;>
      simp [F__law_led, B__law_led, callD, callB, callO, args0, sSeq, sIf, sRet, sRetN, sRetO, sDrop, sAsg, sPar, sNx, sBk, sCt, sNever, eVar, eC, e1, e2, eIf, asB, eAnd, eOr, tAndM, tOrM, dNot, tNotB, aNil, aCons, mkT_ok, mkL_ok, gName, gsNil, gsCons, gTup, gLst, eChain, oNone, oSome, eSl, dIsi, dIsi2, tYesM, Hab.d, Prt.d, strQ, strP, strNo, strTo, strWh, led, ears, m0, m1, mi]
end VS

namespace VS
open PySem PySem.Spec PyProof.Rows L2

def voices (s : Std) (c : Bool × Bool) : Int × Int := (voice s.p c.1, voice s.q c.2)
def vsD (v : Int × Int) : D := .tuple [.int v.1, .int v.2]
def tick (p : Pln) (s : Std) (c : Bool × Bool) : Std :=
  ⟨(led p.a s.p (voices s c).1 (s.m.headD 0) p.ov).1, (led p.b s.q (voices s c).2 (s.l.headD 0) p.ov).1, s.l.tail ++ [(voices s c).1], s.m.tail ++ [(voices s c).2]⟩
def dones (p : Pln) (s : Std) (c : Bool × Bool) : List Int :=
  (if (led p.b s.q (voices s c).2 (s.l.headD 0) p.ov).2 then [0] else []) ++ (if (led p.a s.p (voices s c).1 (s.m.headD 0) p.ov).2 then [1] else [])
theorem line_cons {n : Int} {l : List Int} (h : 1 ≤ n) (o : lineOk n l) : ∃ i t, l = i :: t ∧ 0 ≤ i ∧ i ≤ 3 ∧ lineOk (n - 1) t ∧ (t.length : Int) + 1 = n := by
  obtain ⟨h1, h2⟩ := o
  cases l with
  | nil => simp at h1; omega
  | cons i t =>
    have := h2 i (.head _)
    refine ⟨i, t, rfl, this.1, this.2, ⟨?_, fun j hj => h2 j (.tail _ hj)⟩, ?_⟩ <;> simp at h1 <;> omega
theorem line_snoc {n : Int} {t : List Int} {i : Int} (o : lineOk (n - 1) t) (h0 : 0 ≤ i) (h1 : i ≤ 3) : lineOk n (t ++ [i]) := by
  obtain ⟨k1, k2⟩ := o
  refine ⟨by simp; omega, fun j hj => ?_⟩
  rcases List.mem_append.mp hj with h | h
  · exact k2 j h
  · simp at h; omega
theorem sl1 {a : D} {t : List D} : dSl (.tuple (a :: t)) (some 1) none = some (.tuple t) := by
  simp [dSl, cutD, HT.sIx]
theorem slc2 {a b : D} : dSl (.tuple [a, b]) none (some 1) = some (.tuple [a]) := rfl
theorem slc3 {a b : D} : dSl (.tuple [a, b]) (some 1) none = some (.tuple [b]) := rfl
theorem addT1 {l : List D} {a : D} (h : l.length < 100000) : dAdd (.tuple l) (.tuple [a]) = some (.tuple (l ++ [a])) := addT (by unfold most; simp; omega)
@[simp] theorem addTS {a b : D} {c d : Prop} [Decidable c] [Decidable d] : dAdd (.tuple (if c then [a] else [])) (.tuple (if d then [b] else [])) = some (.tuple ((if c then [a] else []) ++ (if d then [b] else []))) := by by_cases h : c <;> by_cases h2 : d <;> simp [h, h2]
theorem mapIi {i : Int} {c : Prop} [Decidable c] : List.map PyData.int (if c then [i] else []) = if c then [.int i] else [] := by split <;> rfl
theorem law_tick_eq {p : Pln} (k : p.Sh) {s : Std} (o : s.Ok p) (c : Bool × Bool) : F__law_tick [p.d, s.d, prD c] = some (.tuple [(tick p s c).d, vsD (voices s c), lineD (dones p s c)]) := by
  obtain ⟨P, Q, l, m⟩ := s
  obtain ⟨i, t, rfl, i0, i1, t1, tl⟩ := line_cons k.x1 o.okl
  obtain ⟨j, u, rfl, j0, j1, u1, ul⟩ := line_cons k.y1 o.okm
  have r1 := voice_rng P c.1
  have r2 := voice_rng Q c.2
  have k1 := law_voice_eq P c.1
  have k2 := law_voice_eq Q c.2
  have k3 := law_led_eq p.a k.a P (voice P c.1) j r1.1 r1.2 j0 j1 p.ov
  have k4 := law_led_eq p.b k.b Q (voice Q c.2) i r2.1 r2.2 i0 i1 p.ov
  have k5 : ∀ v : Int, dAdd (.tuple (t.map .int)) (.tuple [.int v]) = some (.tuple (t.map .int ++ [.int v])) := fun v => addT1 (by have := k.x2; simp; omega)
  have k6 : ∀ v : Int, dAdd (.tuple (u.map .int)) (.tuple [.int v]) = some (.tuple (u.map .int ++ [.int v])) := fun v => addT1 (by have := k.y2; simp; omega)
  simp [F__law_tick, B__law_tick, callD, callB, callO, args0, sSeq, sIf, sRet, sRetN, sRetO, sDrop, sAsg, sPar, sNx, sBk, sCt, sNever, eVar, eC, e1, e2, eIf, asB, eAnd, eOr, tAndM, tOrM, dNot, tNotB, aNil, aCons, mkT_ok, mkL_ok, gName, gsNil, gsCons, gTup, gLst, eChain, oNone, oSome, eSl, dIsi, dIsi2, tYesM, planD, Std.d, lineD, prD, k1, k2, k3, k4, k5, k6, sl1, slc2, slc3, tick, voices, dones, vsD, mapIi]

/-! ### one tick, as the program has it -/
theorem hearing_of_eq (g : Hg) (v e : Int) (v0 : 0 ≤ v) (h0 : 0 ≤ e) (h1 : e ≤ 3) : F_hearing_of [.str g.s, .int v, .int e] = some (.str (ears v e g).s) := by
  have e4 := cases4 h0 (by omega)
  by_cases hv : v = 0
  · subst hv
    rcases e4 with rfl | rfl | rfl | rfl <;> cases g <;> simp [F_hearing_of, B_hearing_of, callD, callB, callO, args0, sSeq, sIf, sRet, sRetN, sRetO, sDrop, sAsg, sPar, sNx, sBk, sCt, sNever, eVar, eC, e1, e2, eIf, asB, eAnd, eOr, tAndM, tOrM, dNot, tNotB, aNil, aCons, mkT_ok, mkL_ok, gName, gsNil, gsCons, gTup, gLst, eChain, oNone, oSome, eSl, dIsi, dIsi2, tYesM, strNo, strTo, strWh, ears]
  · have hv' : 0 < v := by omega
    rcases e4 with rfl | rfl | rfl | rfl <;> simp [F_hearing_of, B_hearing_of, callD, callB, callO, args0, sSeq, sIf, sRet, sRetN, sRetO, sDrop, sAsg, sPar, sNx, sBk, sCt, sNever, eVar, eC, e1, e2, eIf, asB, eAnd, eOr, tAndM, tOrM, dNot, tNotB, aNil, aCons, mkT_ok, mkL_ok, gName, gsNil, gsCons, gTup, gLst, eChain, oNone, oSome, eSl, dIsi, dIsi2, tYesM, strNo, strTo, strWh, ears, hv, hv']
def doneB (g : Hg) (v e : Int) : Bool := decide (e = 3) && decide (ears v e g = .whole)
theorem is_whole_eq (p : Prt) (v e : Int) (v0 : 0 ≤ v) (h0 : 0 ≤ e) (h1 : e ≤ 3) : F_is_whole [p.d, .int v, .int e] = some (.bool (doneB p.g v e)) := by
  have k1 := hearing_of_eq p.g v e v0 h0 h1
  by_cases he : e = 3
  · subst he
    simp [F_is_whole, B_is_whole, callD, callB, callO, args0, sSeq, sIf, sRet, sRetN, sRetO, sDrop, sAsg, sPar, sNx, sBk, sCt, sNever, eVar, eC, e1, e2, eIf, asB, eAnd, eOr, tAndM, tOrM, dNot, tNotB, aNil, aCons, mkT_ok, mkL_ok, gName, gsNil, gsCons, gTup, gLst, eChain, oNone, oSome, eSl, dIsi, dIsi2, tYesM, Prt.d, k1, strWh, doneB]
  · simp [F_is_whole, B_is_whole, callD, callB, callO, args0, sSeq, sIf, sRet, sRetN, sRetO, sDrop, sAsg, sPar, sNx, sBk, sCt, sNever, eVar, eC, e1, e2, eIf, asB, eAnd, eOr, tAndM, tOrM, dNot, tNotB, aNil, aCons, mkT_ok, mkL_ok, gName, gsNil, gsCons, gTup, gLst, eChain, oNone, oSome, eSl, dIsi, dIsi2, tYesM, Prt.d, doneB, he]
theorem talker_behind_eq (h : Hab) (k : h.Ok) (p : Prt) (o : p.Ok h) (c : Bool) (v e : Int) (hv : v = voice p c) (h0 : 0 ≤ e) (h1 : e ≤ 3) (over : Bool) : F_talker_behind [h.d, p.d, .int v, .int e, .bool over] = some (led h p v e over).1.d := by
  have r := voice_rng p c
  rw [← hv] at r
  have k1 := hearing_of_eq p.g v e r.1 h0 h1
  have k2 := is_whole_eq p v e r.1 h0 h1
  obtain ⟨sp, n, g⟩ := p
  simp only [Prt.d] at k2
  have e4 := cases4 h0 (by omega)
  have k3 : (led h ⟨sp, n, g⟩ v e over).2 = doneB g v e := rfl
  have mx : ∀ a b : Int, (if b < a then b else a) = if a ≤ b then a else b := fun a b => by split <;> split <;> omega
  have key : v = 0 ∨ v = 1 ∨ v = 2 ∨ v = 3 := cases4 r.1 (by omega)
  have hsp : (v = 1 → sp = false) ∧ (v = 2 → sp = true) := by
    subst hv
    cases sp <;> cases c <;> simp [voice]
  have hd : doneB g v e = (decide (e = 3) && decide (ears v e g = .whole)) := rfl
  rcases key with rfl | rfl | rfl | rfl
  · rcases e4 with rfl | rfl | rfl | rfl
    · simp [F_talker_behind, B_talker_behind, callD, callB, callO, args0, sSeq, sIf, sRet, sRetN, sRetO, sDrop, sAsg, sPar, sNx, sBk, sCt, sNever, eVar, eC, e1, e2, eIf, asB, eAnd, eOr, tAndM, tOrM, dNot, tNotB, aNil, aCons, mkT_ok, mkL_ok, gName, gsNil, gsCons, gTup, gLst, eChain, oNone, oSome, eSl, dIsi, dIsi2, tYesM, Hab.d, Prt.d, k1, c_QUIET_eq, c_SPEAKS_eq, strNo, led, ears]
      split <;> split <;> omega
    · cases over <;> simp [F_talker_behind, B_talker_behind, callD, callB, callO, args0, sSeq, sIf, sRet, sRetN, sRetO, sDrop, sAsg, sPar, sNx, sBk, sCt, sNever, eVar, eC, e1, e2, eIf, asB, eAnd, eOr, tAndM, tOrM, dNot, tNotB, aNil, aCons, mkT_ok, mkL_ok, gName, gsNil, gsCons, gTup, gLst, eChain, oNone, oSome, eSl, dIsi, dIsi2, tYesM, Hab.d, Prt.d, k1, k2, c_QUIET_eq, c_SPEAKS_eq, strNo, led, ears, hd]
    · cases over <;> cases g <;> simp [F_talker_behind, B_talker_behind, callD, callB, callO, args0, sSeq, sIf, sRet, sRetN, sRetO, sDrop, sAsg, sPar, sNx, sBk, sCt, sNever, eVar, eC, e1, e2, eIf, asB, eAnd, eOr, tAndM, tOrM, dNot, tNotB, aNil, aCons, mkT_ok, mkL_ok, gName, gsNil, gsCons, gTup, gLst, eChain, oNone, oSome, eSl, dIsi, dIsi2, tYesM, Hab.d, Prt.d, k1, k2, c_QUIET_eq, c_SPEAKS_eq, strNo, led, ears, hd]
    · cases over <;> cases g <;> simp [F_talker_behind, B_talker_behind, callD, callB, callO, args0, sSeq, sIf, sRet, sRetN, sRetO, sDrop, sAsg, sPar, sNx, sBk, sCt, sNever, eVar, eC, e1, e2, eIf, asB, eAnd, eOr, tAndM, tOrM, dNot, tNotB, aNil, aCons, mkT_ok, mkL_ok, gName, gsNil, gsCons, gTup, gLst, eChain, oNone, oSome, eSl, dIsi, dIsi2, tYesM, Hab.d, Prt.d, k1, k2, c_QUIET_eq, c_SPEAKS_eq, strNo, led, ears, hd]
  · have := hsp.1 rfl
    subst this
    cases hst : h.st <;> rcases e4 with rfl | rfl | rfl | rfl <;> simp [F_talker_behind, B_talker_behind, callD, callB, callO, args0, sSeq, sIf, sRet, sRetN, sRetO, sDrop, sAsg, sPar, sNx, sBk, sCt, sNever, eVar, eC, e1, e2, eIf, asB, eAnd, eOr, tAndM, tOrM, dNot, tNotB, aNil, aCons, mkT_ok, mkL_ok, gName, gsNil, gsCons, gTup, gLst, eChain, oNone, oSome, eSl, dIsi, dIsi2, tYesM, Hab.d, Prt.d, k1, c_QUIET_eq, c_SPEAKS_eq, strNo, led, ears, hst]
  · have := hsp.2 rfl
    subst this
    cases hst : h.st <;> rcases e4 with rfl | rfl | rfl | rfl <;> simp [F_talker_behind, B_talker_behind, callD, callB, callO, args0, sSeq, sIf, sRet, sRetN, sRetO, sDrop, sAsg, sPar, sNx, sBk, sCt, sNever, eVar, eC, e1, e2, eIf, asB, eAnd, eOr, tAndM, tOrM, dNot, tNotB, aNil, aCons, mkT_ok, mkL_ok, gName, gsNil, gsCons, gTup, gLst, eChain, oNone, oSome, eSl, dIsi, dIsi2, tYesM, Hab.d, Prt.d, k1, c_QUIET_eq, c_SPEAKS_eq, strNo, led, ears, hst]
  · rcases e4 with rfl | rfl | rfl | rfl <;> simp [F_talker_behind, B_talker_behind, callD, callB, callO, args0, sSeq, sIf, sRet, sRetN, sRetO, sDrop, sAsg, sPar, sNx, sBk, sCt, sNever, eVar, eC, e1, e2, eIf, asB, eAnd, eOr, tAndM, tOrM, dNot, tNotB, aNil, aCons, mkT_ok, mkL_ok, gName, gsNil, gsCons, gTup, gLst, eChain, oNone, oSome, eSl, dIsi, dIsi2, tYesM, Hab.d, Prt.d, k1, c_QUIET_eq, c_SPEAKS_eq, strNo, led, ears]
theorem signs_of_eq (s : Std) (c : Bool × Bool) : F_signs_of [s.d, prD c] = some (vsD (voices s c)) := by
  have k1 := sign_of_eq s.p c.1
  have k2 := sign_of_eq s.q c.2
  simp [F_signs_of, B_signs_of, callD, callB, callO, args0, sSeq, sIf, sRet, sRetN, sRetO, sDrop, sAsg, sPar, sNx, sBk, sCt, sNever, eVar, eC, e1, e2, eIf, asB, eAnd, eOr, tAndM, tOrM, dNot, tNotB, aNil, aCons, mkT_ok, mkL_ok, gName, gsNil, gsCons, gTup, gLst, eChain, oNone, oSome, eSl, dIsi, dIsi2, tYesM, most, eLc, okW, isOl, lcGo, wipeR, restR, fAll, boolsD, sFor, forGo, Std.d, prD, k1, k2, fTuple, vsD, voices]
def earsD (s : Std) : D := .tuple [.int (s.m.headD 0), .int (s.l.headD 0)]
theorem heard_by_eq {p : Pln} (k : p.Sh) {s : Std} (o : s.Ok p) : F_heard_by [s.d] = some (earsD s) := by
  obtain ⟨P, Q, l, m⟩ := s
  obtain ⟨i, t, rfl, i0, i1, t1, tl⟩ := line_cons k.x1 o.okl
  obtain ⟨j, u, rfl, j0, j1, u1, ul⟩ := line_cons k.y1 o.okm
  simp [F_heard_by, B_heard_by, callD, callB, callO, args0, sSeq, sIf, sRet, sRetN, sRetO, sDrop, sAsg, sPar, sNx, sBk, sCt, sNever, eVar, eC, e1, e2, eIf, asB, eAnd, eOr, tAndM, tOrM, dNot, tNotB, aNil, aCons, mkT_ok, mkL_ok, gName, gsNil, gsCons, gTup, gLst, eChain, oNone, oSome, eSl, dIsi, dIsi2, tYesM, Std.d, lineD, earsD]
theorem whole_by_eq {p : Pln} (k : p.Sh) {s : Std} (o : s.Ok p) (c : Bool × Bool) : F_whole_by [s.d, prD c] = some (lineD (dones p s c)) := by
  have k1 := signs_of_eq s c
  have k2 := heard_by_eq k o
  obtain ⟨P, Q, l, m⟩ := s
  obtain ⟨i, t, rfl, i0, i1, t1, tl⟩ := line_cons k.x1 o.okl
  obtain ⟨j, u, rfl, j0, j1, u1, ul⟩ := line_cons k.y1 o.okm
  have k3 := is_whole_eq P (voice P c.1) j (voice_rng _ _).1 j0 j1
  have k4 := is_whole_eq Q (voice Q c.2) i (voice_rng _ _).1 i0 i1
  have k5 : (led p.a P (voice P c.1) j p.ov).2 = doneB P.g (voice P c.1) j := rfl
  have k6 : (led p.b Q (voice Q c.2) i p.ov).2 = doneB Q.g (voice Q c.2) i := rfl
  simp only [Std.d, lineD, List.map] at k1 k2
  cases h1 : doneB P.g (voice P c.1) j <;> cases h2 : doneB Q.g (voice Q c.2) i <;>
    simp [F_whole_by, B_whole_by, callD, callB, callO, args0, sSeq, sIf, sRet, sRetN, sRetO, sDrop, sAsg, sPar, sNx, sBk, sCt, sNever, eVar, eC, e1, e2, eIf, asB, eAnd, eOr, tAndM, tOrM, dNot, tNotB, aNil, aCons, mkT_ok, mkL_ok, gName, gsNil, gsCons, gTup, gLst, eChain, oNone, oSome, eSl, dIsi, dIsi2, tYesM, most, eLc, okW, isOl, lcGo, wipeR, restR, fAll, boolsD, sFor, forGo, Std.d, k1, k2, k3, k4, h1, h2, vsD, voices, earsD, fTuple, dones, k5, k6, lineD]
theorem behind_eq {p : Pln} (k : p.Sh) {s : Std} (o : s.Ok p) (c : Bool × Bool) : F_behind [p.d, s.d, prD c] = some (tick p s c).d := by
  have k1 := signs_of_eq s c
  have k2 := heard_by_eq k o
  obtain ⟨P, Q, l, m⟩ := s
  obtain ⟨i, t, rfl, i0, i1, t1, tl⟩ := line_cons k.x1 o.okl
  obtain ⟨j, u, rfl, j0, j1, u1, ul⟩ := line_cons k.y1 o.okm
  have k3 := talker_behind_eq p.a k.a P o.okp c.1 _ j rfl j0 j1 p.ov
  have k4 := talker_behind_eq p.b k.b Q o.okq c.2 _ i rfl i0 i1 p.ov
  have k5 : ∀ v : Int, dAdd (.tuple (t.map .int)) (.tuple [.int v]) = some (.tuple (t.map .int ++ [.int v])) := fun v => addT1 (by have := k.x2; simp; omega)
  have k6 : ∀ v : Int, dAdd (.tuple (u.map .int)) (.tuple [.int v]) = some (.tuple (u.map .int ++ [.int v])) := fun v => addT1 (by have := k.y2; simp; omega)
  have k7 : iR1 [.int 2] = some [.int 0, .int 1] := rfl
  simp only [Std.d, lineD, List.map] at k1 k2
  simp [F_behind, B_behind, callD, callB, callO, args0, sSeq, sIf, sRet, sRetN, sRetO, sDrop, sAsg, sPar, sNx, sBk, sCt, sNever, eVar, eC, e1, e2, eIf, asB, eAnd, eOr, tAndM, tOrM, dNot, tNotB, aNil, aCons, mkT_ok, mkL_ok, gName, gsNil, gsCons, gTup, gLst, eChain, oNone, oSome, eSl, dIsi, dIsi2, tYesM, most, eLc, okW, isOl, lcGo, wipeR, restR, fAll, boolsD, sFor, forGo, planD, Std.d, lineD, k1, k2, k3, k4, k5, k6, k7, sl1, vsD, voices, earsD, fTuple, tick, sApp, eTake, sPar3O]
end VS

namespace VS
open PySem PySem.Spec PyProof.Rows L2

theorem led_ok {h : Hab} {p : Prt} (k : h.Ok) (o : p.Ok h) {c : Bool} (m : c ∈ opts h p) (e : Int) (over : Bool) : (led h p (voice p c) e over).1.Ok h := by
  obtain ⟨a1, a2, a3, b1, b2, b3⟩ := k
  obtain ⟨sp, n, g⟩ := p
  cases sp
  · have o1 : 0 ≤ n ∧ n ≤ h.w1 := o
    cases c
    · show Prt.Ok h (led h ⟨false, n, g⟩ 0 e over).1
      by_cases he : e = 0
      · simp [led, he, Prt.Ok]; split <;> omega
      · simp [led, he, Prt.Ok]; split <;> omega
    · show Prt.Ok h (led h ⟨false, n, g⟩ 1 e over).1
      unfold led
      simp only [Prt.Ok]
      split
      · simp; omega
      · simp; omega
  · have o1 : 1 ≤ n ∧ n ≤ h.s1 - 1 := o
    cases c
    · have m' : ¬ n + 1 = h.s1 := by
        intro z
        simp [opts, z] at m
      show Prt.Ok h (led h ⟨true, n, g⟩ 2 e over).1
      unfold led
      simp only [Prt.Ok]
      split
      · simp; omega
      · simp; omega
    · show Prt.Ok h (led h ⟨true, n, g⟩ 3 e over).1
      simp [led, Prt.Ok]; omega
theorem tick_ok {p : Pln} (k : p.Sh) {s : Std} (o : s.Ok p) {c : Bool × Bool} (m : c ∈ chs p s) : (tick p s c).Ok p := by
  have m' := chs_mem.mp m
  obtain ⟨P, Q, l, n⟩ := s
  obtain ⟨i, t, rfl, i0, i1, t1, tl⟩ := line_cons k.x1 o.okl
  obtain ⟨j, u, rfl, j0, j1, u1, ul⟩ := line_cons k.y1 o.okm
  exact ⟨led_ok k.a o.okp m'.1 _ _, led_ok k.b o.okq m'.2 _ _, line_snoc t1 (voice_rng _ _).1 (voice_rng _ _).2, line_snoc u1 (voice_rng _ _).1 (voice_rng _ _).2⟩

/-! ### what guards the doors -/
open Classical in
theorem look_at_stand_yes {p : Pln} (k : p.Sh) {s : Std} (o : s.Ok p) : F_look_at_stand [p.d, s.d] = some .none := by
  have k1 := fits_eq k s.d
  rw [decide_eq_true ⟨s, o, rfl⟩] at k1
  simp [F_look_at_stand, B_look_at_stand, callD, callB, callO, args0, sSeq, sIf, sRet, sRetN, sRetO, sDrop, sAsg, sPar, sNx, sBk, sCt, sNever, eVar, eC, e1, e2, eIf, asB, eAnd, eOr, tAndM, tOrM, dNot, tNotB, aNil, aCons, mkT_ok, mkL_ok, gName, gsNil, gsCons, gTup, gLst, eChain, oNone, oSome, eSl, dIsi, dIsi2, tYesM, k1]
theorem pr_eqv (a b : Bool × Bool) : PyData.eqv (prD a) (prD b) = decide (a = b) := by
  obtain ⟨a1, a2⟩ := a
  obtain ⟨b1, b2⟩ := b
  cases a1 <;> cases a2 <;> cases b1 <;> cases b2 <;> simp [prD, PyData.eqv, PyData.eqvAll]
theorem pr_shaped (c : Bool × Bool) : SeqAt.shaped (prD c) = true := by
  simp [SeqAt.shaped, prD, PyData.canLay0, PyData.canLayAll0, PyData.depth, PyData.depthAll]
theorem ch_shaped (l : List (Bool × Bool)) : SeqAt.shaped (chD l) = true := by
  have : PyData.canLayAll0 (l.map prD) = true ∧ PyData.depthAll (l.map prD) ≤ 3 := by
    induction l with
    | nil => simp [PyData.canLayAll0, PyData.depthAll]
    | cons c l ih =>
      simp [PyData.canLayAll0, PyData.depthAll, ih.1, prD, PyData.canLay0, PyData.depth]
      omega
  simp [SeqAt.shaped, chD, PyData.canLay0, PyData.depth, this.1]
  omega
theorem in_ch (c : Bool × Bool) (l : List (Bool × Bool)) : dIn false (prD c) (chD l) = some (.bool (decide (c ∈ l))) := by
  have h1 : fIn false (prD c) (chD l) = none := by simp [fIn, chD, prD, flatD]
  rw [dIn, orE_none h1]
  refine orE_some ?_
  have h2 : SeqAt.shaped (.list (l.map prD)) = true := ch_shaped l
  simp only [lIn, chD, pr_shaped, h2, Bool.and_self, if_true, Bool.false_xor]
  congr 2
  rw [Bool.eq_iff_iff, decide_eq_true_iff, List.any_eq_true]
  constructor
  · rintro ⟨d, hd, q⟩
    obtain ⟨x, hx, rfl⟩ := List.mem_map.mp hd
    rw [pr_eqv, decide_eq_true_iff] at q
    exact q ▸ hx
  · intro h
    exact ⟨prD c, List.mem_map_of_mem h, by rw [pr_eqv]; simp⟩
theorem is_like_eq (c : Bool × Bool) (l : List (Bool × Bool)) : F_is_like [prD c, chD l] = some (.bool (decide (c ∈ l))) := by
  have k := in_ch c l
  simp only [prD] at k
  simp [F_is_like, B_is_like, callD, callB, callO, args0, sSeq, sIf, sRet, sRetN, sRetO, sDrop, sAsg, sPar, sNx, sBk, sCt, sNever, eVar, eC, e1, e2, eIf, asB, eAnd, eOr, tAndM, tOrM, dNot, tNotB, aNil, aCons, mkT_ok, mkL_ok, gName, gsNil, gsCons, gTup, gLst, eChain, oNone, oSome, eSl, dIsi, dIsi2, tYesM, most, eLc, okW, isOl, lcGo, wipeR, restR, fAll, boolsD, sFor, forGo, prD, k]
theorem look_at_choice_yes {p : Pln} {s : Std} (o : s.Ok p) {c : Bool × Bool} (m : c ∈ chs p s) : F_look_at_choice [p.d, s.d, prD c] = some .none := by
  have k1 := choices_of_eq o
  have k2 := is_like_eq c (chs p s)
  rw [decide_eq_true m] at k2
  simp [F_look_at_choice, B_look_at_choice, callD, callB, callO, args0, sSeq, sIf, sRet, sRetN, sRetO, sDrop, sAsg, sPar, sNx, sBk, sCt, sNever, eVar, eC, e1, e2, eIf, asB, eAnd, eOr, tAndM, tOrM, dNot, tNotB, aNil, aCons, mkT_ok, mkL_ok, gName, gsNil, gsCons, gTup, gLst, eChain, oNone, oSome, eSl, dIsi, dIsi2, tYesM, k1, k2]
theorem choices_at_eq {p : Pln} (k : p.Ok) {s : Std} (o : s.Ok p) : F_choices_at [p.d, s.d] = some (chD (chs p s)) := by
  have k1 := look_at_plan_yes k
  have k2 := look_at_stand_yes k.toSh o
  have k3 := choices_of_eq o
  simp [F_choices_at, B_choices_at, callD, callB, callO, args0, sSeq, sIf, sRet, sRetN, sRetO, sDrop, sAsg, sPar, sNx, sBk, sCt, sNever, eVar, eC, e1, e2, eIf, asB, eAnd, eOr, tAndM, tOrM, dNot, tNotB, aNil, aCons, mkT_ok, mkL_ok, gName, gsNil, gsCons, gTup, gLst, eChain, oNone, oSome, eSl, dIsi, dIsi2, tYesM, k1, k2, k3]
theorem heard_eq {p : Pln} (k : p.Ok) {s : Std} (o : s.Ok p) : F_heard [p.d, s.d] = some (earsD s) := by
  have k1 := look_at_plan_yes k
  have k2 := look_at_stand_yes k.toSh o
  have k3 := heard_by_eq k.toSh o
  simp [F_heard, B_heard, callD, callB, callO, args0, sSeq, sIf, sRet, sRetN, sRetO, sDrop, sAsg, sPar, sNx, sBk, sCt, sNever, eVar, eC, e1, e2, eIf, asB, eAnd, eOr, tAndM, tOrM, dNot, tNotB, aNil, aCons, mkT_ok, mkL_ok, gName, gsNil, gsCons, gTup, gLst, eChain, oNone, oSome, eSl, dIsi, dIsi2, tYesM, k1, k2, k3]
theorem said_eq {p : Pln} (k : p.Ok) {s : Std} (o : s.Ok p) {c : Bool × Bool} (m : c ∈ chs p s) : F_said [p.d, s.d, prD c] = some (vsD (voices s c)) := by
  have k1 := look_at_plan_yes k
  have k2 := look_at_stand_yes k.toSh o
  have k3 := look_at_choice_yes o m
  have k4 := signs_of_eq s c
  simp [F_said, B_said, callD, callB, callO, args0, sSeq, sIf, sRet, sRetN, sRetO, sDrop, sAsg, sPar, sNx, sBk, sCt, sNever, eVar, eC, e1, e2, eIf, asB, eAnd, eOr, tAndM, tOrM, dNot, tNotB, aNil, aCons, mkT_ok, mkL_ok, gName, gsNil, gsCons, gTup, gLst, eChain, oNone, oSome, eSl, dIsi, dIsi2, tYesM, k1, k2, k3, k4]
theorem after_eq {p : Pln} (k : p.Ok) {s : Std} (o : s.Ok p) {c : Bool × Bool} (m : c ∈ chs p s) : F_after [p.d, s.d, prD c] = some (tick p s c).d := by
  have k1 := look_at_plan_yes k
  have k2 := look_at_stand_yes k.toSh o
  have k3 := look_at_choice_yes o m
  have k4 := behind_eq k.toSh o c
  simp [F_after, B_after, callD, callB, callO, args0, sSeq, sIf, sRet, sRetN, sRetO, sDrop, sAsg, sPar, sNx, sBk, sCt, sNever, eVar, eC, e1, e2, eIf, asB, eAnd, eOr, tAndM, tOrM, dNot, tNotB, aNil, aCons, mkT_ok, mkL_ok, gName, gsNil, gsCons, gTup, gLst, eChain, oNone, oSome, eSl, dIsi, dIsi2, tYesM, k1, k2, k3, k4]
theorem whole_eq {p : Pln} (k : p.Ok) {s : Std} (o : s.Ok p) {c : Bool × Bool} (m : c ∈ chs p s) : F_whole [p.d, s.d, prD c] = some (lineD (dones p s c)) := by
  have k1 := look_at_plan_yes k
  have k2 := look_at_stand_yes k.toSh o
  have k3 := look_at_choice_yes o m
  have k4 := whole_by_eq k.toSh o c
  simp [F_whole, B_whole, callD, callB, callO, args0, sSeq, sIf, sRet, sRetN, sRetO, sDrop, sAsg, sPar, sNx, sBk, sCt, sNever, eVar, eC, e1, e2, eIf, asB, eAnd, eOr, tAndM, tOrM, dNot, tNotB, aNil, aCons, mkT_ok, mkL_ok, gName, gsNil, gsCons, gTup, gLst, eChain, oNone, oSome, eSl, dIsi, dIsi2, tYesM, k1, k2, k3, k4]

end VS

namespace VS
open PySem PySem.Spec PyProof.Rows L2


/-! ### twins -/
mutual
/-- plain data of so many layers, with at most so many items in a layer -/
def okP : Nat → D → Bool
  | _, .none | _, .bool _ | _, .int _ => true
  | _, .str x => PyData.strOk x
  | n + 1, .list ds => decide (ds.length ≤ 30000) && okPs n ds
  | n + 1, .tuple ds => decide (ds.length ≤ 30000) && okPs n ds
  | _, _ => false
def okPs : Nat → List D → Bool
  | _, [] => true
  | n, d :: ds => okP n d && okPs n ds
end
theorem okPs_iff {n : Nat} : ∀ {ds : List D}, okPs n ds = true ↔ ∀ d ∈ ds, okP n d = true
  | [] => by simp [okPs]
  | d :: ds => by simp [okPs, okPs_iff (ds := ds)]
theorem okP_lay : ∀ (n : Nat) (d : D), okP n d = true → d.canLay0 = true := by
  have all : ∀ n, (∀ d, okP n d = true → d.canLay0 = true) → ∀ ds, okPs n ds = true → PyData.canLayAll0 ds = true := by
    intro n ih ds
    induction ds with
    | nil => intro _; rfl
    | cons d ds hi =>
      intro h
      simp only [okPs, Bool.and_eq_true] at h
      simp [PyData.canLayAll0, ih d h.1, hi h.2]
  intro n
  induction n with
  | zero => intro d h; cases d <;> simp_all [okP, PyData.canLay0]
  | succ n ih =>
    intro d h
    cases d with
    | list ds => simp only [okP, Bool.and_eq_true] at h; exact all n ih ds h.2
    | tuple ds => simp only [okP, Bool.and_eq_true] at h; exact all n ih ds h.2
    | _ => simp_all [okP, PyData.canLay0]
def kindOf : D → Int
  | .none => 0
  | .bool _ => 1
  | .list _ => 2
  | .tuple _ => 3
  | .int _ => 4
  | .str _ => 5
  | .dict _ => 6
theorem law_kind_eq (d : D) : F__law_kind [d] = some (.int (kindOf d)) := by
  cases d <;> simp [F__law_kind, B__law_kind, callD, callB, callO, args0, sSeq, sIf, sRet, sRetN, sRetO, sDrop, sAsg, sPar, sNx, sBk, sCt, sNever, eVar, eC, e1, e2, eIf, asB, eAnd, eOr, tAndM, tOrM, dNot, tNotB, aNil, aCons, mkT_ok, mkL_ok, gName, gsNil, gsCons, gTup, gLst, eChain, oNone, oSome, eSl, dIsi, dIsi2, tYesM, dIsN, kindOf]
theorem in23 (i : Int) : dIn false (.int i) (.list [.int 2, .int 3]) = some (.bool (decide (i = 2) || decide (i = 3))) := by
  refine orE_some ?_
  simp only [fIn, flatD, List.all_cons, List.all_nil, Bool.and_self, if_pos, List.any_cons, List.any_nil, PyData.eqv, Bool.or_false, Bool.beq_eq_decide_eq, Bool.false_xor]
  congr 3
  · rw [Bool.eq_iff_iff]; simp; exact ⟨Eq.symm, Eq.symm⟩
  · rw [Bool.eq_iff_iff]; simp; exact ⟨Eq.symm, Eq.symm⟩
open Classical in
noncomputable def twN : D → Bool
  | .tuple [x, y] => !decide (x = y)
  | _ => false
open Classical in
theorem zip_all : ∀ (xs ys : List D), xs.length = ys.length → (((zipD xs ys).all fun d => !twN d) = true ↔ xs = ys)
  | [], [], _ => by simp
  | x :: xs, y :: ys, h => by
    have ih := zip_all xs ys (by simpa using h)
    rw [zip2, List.all_cons, Bool.and_eq_true, ih]
    simp [twN]
  | [], _ :: _, h => by simp at h
  | _ :: _, [], h => by simp at h
theorem zip_mem : ∀ {xs ys : List D} {d : D}, d ∈ zipD xs ys → ∃ x y, x ∈ xs ∧ y ∈ ys ∧ d = .tuple [x, y]
  | [], ys, d, h => by simp at h
  | x :: xs, [], d, h => by simp at h
  | x :: xs, y :: ys, d, h => by
    rw [zip2] at h
    rcases List.mem_cons.mp h with rfl | h
    · exact ⟨x, y, .head _, .head _, rfl⟩
    · obtain ⟨a, b, h1, h2, h3⟩ := zip_mem h
      exact ⟨a, b, .tail _ h1, .tail _ h2, h3⟩
theorem zip_len (xs ys : List D) : (zipD xs ys).length = min xs.length ys.length := by simp [zipD]
open Classical in
theorem twins_seq {Fr : List D → Option D} {xs ys : List D} (hf : ∀ x ∈ xs, ∀ y ∈ ys, Fr [x, y] = some (.bool (decide (x = y)))) (a b : D) :
    lcGo (gTup (gsCons (gName 2) (gsCons (gName 3) gsNil))) (e1 tNotB (e1 asB (e1 Fr (aCons (eVar 2) (aCons (eVar 3) aNil))))) (eC (.int 1)) [2, 3] (zipD xs ys) [some (.dat a), some (.dat b), none, none] = some (((zipD xs ys).filter twN).map fun _ => .int 1, [some (.dat a), some (.dat b), none, none]) :=
  lc_gen twN (fun _ => .int 1) fun d hd => by
    obtain ⟨x, y, hx, hy, rfl⟩ := zip_mem hd
    exact ⟨_, _, rfl, by simp [callD, callB, callO, args0, sSeq, sIf, sRet, sRetN, sRetO, sDrop, sAsg, sPar, sNx, sBk, sCt, sNever, eVar, eC, e1, e2, eIf, asB, eAnd, eOr, tAndM, tOrM, dNot, tNotB, aNil, aCons, mkT_ok, mkL_ok, gName, gsNil, gsCons, gTup, gLst, eChain, oNone, oSome, eSl, dIsi, dIsi2, tYesM, hf x hx y hy]; exact ⟨by simp [twN], rfl⟩, fun _ => rfl, fun _ => ⟨_, rfl, rfl⟩⟩
open Classical in
theorem twins_eq : ∀ (n : Nat) (a b : D), okP n a = true → okP n b = true → F__law_twins (n + 1) [a, b] = some (.bool (decide (a = b))) := by
  have flat : ∀ (Fr : List D → Option D) (a b : D), kindOf a ≠ 2 → kindOf a ≠ 3 → a.canLay0 = true → b.canLay0 = true → (kindOf a = kindOf b → PyData.eqv a b = decide (a = b)) → a.depth ≤ 1 → callD 4 2 (B__law_twins Fr) [a, b] = some (.bool (decide (a = b))) := by
    intro Fr a b h2 h3 l1 l2 he hd
    by_cases hk : kindOf a = kindOf b
    · have k1 : dEq a b = some (.bool (decide (a = b))) := by
        unfold dEq okEq
        rw [if_pos (by simp [l1, l2]; omega), he hk]
      simp [B__law_twins, callD, callB, callO, args0, sSeq, sIf, sRet, sRetN, sRetO, sDrop, sAsg, sPar, sNx, sBk, sCt, sNever, eVar, eC, e1, e2, eIf, asB, eAnd, eOr, tAndM, tOrM, dNot, tNotB, aNil, aCons, mkT_ok, mkL_ok, gName, gsNil, gsCons, gTup, gLst, eChain, oNone, oSome, eSl, dIsi, dIsi2, tYesM, law_kind_eq, hk, in23, k1]
      rw [hk] at h2 h3
      simp [h2, h3, k1]
    · have : ¬ a = b := fun z => hk (by rw [z])
      simp [B__law_twins, callD, callB, callO, args0, sSeq, sIf, sRet, sRetN, sRetO, sDrop, sAsg, sPar, sNx, sBk, sCt, sNever, eVar, eC, e1, e2, eIf, asB, eAnd, eOr, tAndM, tOrM, dNot, tNotB, aNil, aCons, mkT_ok, mkL_ok, gName, gsNil, gsCons, gTup, gLst, eChain, oNone, oSome, eSl, dIsi, dIsi2, tYesM, law_kind_eq, hk, this]
  have seq : ∀ (Fr : List D → Option D) (n : Nat), (∀ a b, okP n a = true → okP n b = true → Fr [a, b] = some (.bool (decide (a = b)))) → ∀ xs ys : List D, okPs n xs = true → okPs n ys = true → xs.length ≤ 30000 → ∀ a b, kindOf a = kindOf b → kindOf b = 2 ∨ kindOf b = 3 → fLen [a] = some (.int xs.length) → fLen [b] = some (.int ys.length) → iZ [a, b] = some (zipD xs ys) → ((a = b) ↔ xs = ys) → callD 4 2 (B__law_twins Fr) [a, b] = some (.bool (decide (a = b))) := by
    intro Fr n hf xs ys h1 h2 hl a b hk hk2 l1 l2 hz hab
    have k1 := twins_seq (Fr := Fr) (xs := xs) (ys := ys) (fun x hx y hy => hf x y (okPs_iff.mp h1 x hx) (okPs_iff.mp h2 y hy)) a b
    have k2 := eqNil (lay_ones ((zipD xs ys).filter twN))
    rw [filter_len] at k2
    have hl2 : ((zipD xs ys).filter twN).length ≤ most := by
      have := List.length_filter_le twN (zipD xs ys)
      rw [zip_len] at this
      unfold most; omega
    have k3 : (decide (kindOf b = 2) || decide (kindOf b = 3)) = true := by simpa using hk2
    by_cases hlen : xs.length = ys.length
    · have k4 := zip_all xs ys hlen
      have k5 : decide (a = b) = ((zipD xs ys).all fun d => !twN d) := by
        rw [Bool.eq_iff_iff, decide_eq_true_iff, hab, k4]
      rw [k5]
      simp [B__law_twins, callD, callB, callO, args0, sSeq, sIf, sRet, sRetN, sRetO, sDrop, sAsg, sPar, sNx, sBk, sCt, sNever, eVar, eC, e1, e2, eIf, asB, eAnd, eOr, tAndM, tOrM, dNot, tNotB, aNil, aCons, mkT_ok, mkL_ok, gName, gsNil, gsCons, gTup, gLst, eChain, oNone, oSome, eSl, dIsi, dIsi2, tYesM, law_kind_eq, hk, in23, k3, l1, l2, hlen, hz, eLc, okW, isOl, wipeR, restR, k1, hl2, k2]
    · have k5 : ¬ a = b := fun z => hlen (by rw [hab.mp z])
      have k6 : ¬ (xs.length : Int) = ys.length := by omega
      simp [B__law_twins, callD, callB, callO, args0, sSeq, sIf, sRet, sRetN, sRetO, sDrop, sAsg, sPar, sNx, sBk, sCt, sNever, eVar, eC, e1, e2, eIf, asB, eAnd, eOr, tAndM, tOrM, dNot, tNotB, aNil, aCons, mkT_ok, mkL_ok, gName, gsNil, gsCons, gTup, gLst, eChain, oNone, oSome, eSl, dIsi, dIsi2, tYesM, law_kind_eq, hk, in23, k3, l1, l2, k6, k5]
  have diff : ∀ (Fr : List D → Option D) (a b : D), kindOf a ≠ kindOf b → callD 4 2 (B__law_twins Fr) [a, b] = some (.bool (decide (a = b))) := by
    intro Fr a b hk
    have : ¬ a = b := fun z => hk (by rw [z])
    simp [B__law_twins, callD, callB, callO, args0, sSeq, sIf, sRet, sRetN, sRetO, sDrop, sAsg, sPar, sNx, sBk, sCt, sNever, eVar, eC, e1, e2, eIf, asB, eAnd, eOr, tAndM, tOrM, dNot, tNotB, aNil, aCons, mkT_ok, mkL_ok, gName, gsNil, gsCons, gTup, gLst, eChain, oNone, oSome, eSl, dIsi, dIsi2, tYesM, law_kind_eq, hk, this]
  intro n
  induction n with
  | zero =>
    intro a b ha hb
    have l1 := okP_lay _ _ ha
    have l2 := okP_lay _ _ hb
    by_cases hk : kindOf a = kindOf b
    · cases a <;> first | (simp [okP] at ha; done) | (cases b <;> first | (simp [kindOf] at hk; done) | exact flat _ _ _ (by simp [kindOf]) (by simp [kindOf]) l1 l2 (fun _ => by simp [PyData.eqv, Bool.beq_eq_decide_eq]) (by simp [PyData.depth]))
    · exact diff _ a b hk
  | succ n ih =>
    intro a b ha hb
    have l1 := okP_lay _ _ ha
    have l2 := okP_lay _ _ hb
    by_cases hk : kindOf a = kindOf b
    · cases a with
      | list xs =>
        cases b <;> first | (simp [kindOf] at hk; done) | skip
        rename_i ys
        simp only [okP, Bool.and_eq_true, decide_eq_true_iff] at ha hb
        exact seq _ n ih xs ys ha.2 hb.2 ha.1 _ _ hk (.inl rfl) rfl rfl rfl (by simp)
      | tuple xs =>
        cases b <;> first | (simp [kindOf] at hk; done) | skip
        rename_i ys
        simp only [okP, Bool.and_eq_true, decide_eq_true_iff] at ha hb
        exact seq _ n ih xs ys ha.2 hb.2 ha.1 _ _ hk (.inr rfl) rfl rfl rfl (by simp)
      | dict xs => simp [okP] at ha
      | _ => cases b <;> first | (simp [kindOf] at hk; done) | exact flat _ _ _ (by simp [kindOf]) (by simp [kindOf]) l1 l2 (fun _ => by simp [PyData.eqv, Bool.beq_eq_decide_eq]) (by simp [PyData.depth])
    · exact diff _ a b hk
/-! ### bent -/
theorem cut_len (ds : List D) (lo hi : Option Int) : (cutD ds lo hi).length ≤ ds.length := by
  unfold cutD
  simp
  omega
def bentL : List D := [.none, .bool true, .bool false, .int 0, .int 1, .int 2, .int 3, .int 4, .int 5, .int 6, .int 7, .int (-1), .int 1000000000000000000000000000000, .str (Str.ofString "quiet"), .str (Str.ofString "speaks"), .str (Str.ofString "torn"), .str (Str.ofString "whole"), .str (Str.ofString "none"), .str (Str.ofString ""),
  .tuple [], .list [], .tuple [.int 1, .int 1], .tuple [.int 2, .int 2], .tuple [.int 4, .int 2], .tuple [.int 2, .int 4], .tuple [.int 6, .int 6], .tuple [.int 0], .tuple [.str (Str.ofString "quiet"), .int 0, .str (Str.ofString "none")], .list [.int 0]]
theorem bent_tail {es : List D} (hs : Spr es) : ∃ r es' d, F__law_pick es [.int 29] = some (.int r, es') ∧ dIx (.list bentL) (.int r) = some d ∧ Spr es' := by
  obtain ⟨r, es', q, a, b, s⟩ := pick_ok hs 29 (by decide) (by decide)
  obtain ⟨d, hd, _⟩ := ixL_of (ds := bentL) a b
  exact ⟨r, es', d, q, hd, s⟩
theorem addL' {a b : List D} (h : a.length + b.length ≤ 100000) : dAdd (.list a) (.list b) = some (.list (a ++ b)) := addL h
theorem addT' {a b : List D} (h : a.length + b.length ≤ 100000) : dAdd (.tuple a) (.tuple b) = some (.tuple (a ++ b)) := addT h
theorem neNilT {ds : List D} (h : PyData.canLayAll0 ds = true) : dNe (.tuple ds) (.tuple []) = some (.bool (!ds.isEmpty)) := by
  unfold dNe okEq
  rw [if_pos (by simp [PyData.canLay0, h, PyData.canLayAll0, PyData.depth, PyData.depthAll])]
  cases ds <;> simp [PyData.eqv, PyData.eqvAll]
@[simp] theorem pow30 : iPow (.int 10) (.int 30) = some (.int 1000000000000000000000000000000) := rfl
@[simp] theorem negI {i : Int} : dNeg (.int i) = some (.int (-i)) := rfl
theorem bent_flat (Fr : List D → List D → Option (D × List D)) {v : D} {es : List D} (hs : Spr es) (h : Ty5.is .tup v = false ∨ v = .tuple []) : ∃ d es', callB 5 2 (B__law_bent Fr) es [v] = some (d, es') ∧ Spr es' := by
  obtain ⟨r, es', d, q1, q2, s⟩ := bent_tail hs
  simp only [bentL] at q2
  refine ⟨d, es', ?_, s⟩
  rcases h with h | rfl
  · simp [B__law_bent, callD, callB, callO, args0, sSeq, sIf, sRet, sRetN, sRetO, sDrop, sAsg, sPar, sNx, sBk, sCt, sNever, eVar, eC, e1, e2, eIf, asB, eAnd, eOr, tAndM, tOrM, dNot, tNotB, aNil, aCons, mkT_ok, mkL_ok, gName, gsNil, gsCons, gTup, gLst, eChain, oNone, oSome, eSl, dIsi, dIsi2, tYesM, h, eBor, isOl, addL', q1, q2]
  · have k := neNilT (ds := []) rfl
    simp [B__law_bent, callD, callB, callO, args0, sSeq, sIf, sRet, sRetN, sRetO, sDrop, sAsg, sPar, sNx, sBk, sCt, sNever, eVar, eC, e1, e2, eIf, asB, eAnd, eOr, tAndM, tOrM, dNot, tNotB, aNil, aCons, mkT_ok, mkL_ok, gName, gsNil, gsCons, gTup, gLst, eChain, oNone, oSome, eSl, dIsi, dIsi2, tYesM, k, eBor, isOl, addL', q1, q2]
theorem bent_ok : ∀ (n : Nat) (v : D) (es : List D), okP n v = true → Spr es → ∃ d es', F__law_bent (n + 1) es [v] = some (d, es') ∧ Spr es' := by
  intro n
  induction n with
  | zero =>
    intro v es hv hs
    cases v <;> first | (simp [okP] at hv; done) | exact bent_flat _ hs (.inl rfl)
  | succ n ih =>
    intro v es hv hs
    cases v <;> first | (simp [okP] at hv; done) | exact bent_flat _ hs (.inl rfl) | skip
    rename_i ds
    cases ds with
    | nil => exact bent_flat _ hs (.inr rfl)
    | cons x xs =>
      have lay := okP_lay _ _ hv
      simp only [okP, Bool.and_eq_true, decide_eq_true_iff] at hv
      obtain ⟨hl, hv⟩ := hv
      have k0 := neNilT (ds := x :: xs) lay
      simp only [List.isEmpty_cons, Bool.not_false] at k0
      obtain ⟨r1, es1, p1, a1, b1, s1⟩ := pick_ok hs 6 (by decide) (by decide)
      by_cases hr : 0 < r1
      · have hlen : ((x :: xs).length : Int) = xs.length + 1 := by simp
        obtain ⟨r2, es2, p2, a2, b2, s2⟩ := pick_ok s1 (xs.length + 1) (by omega) (by simp at hl; omega)
        obtain ⟨r3, es3, p3, a3, b3, s3⟩ := pick_ok s2 7 (by decide) (by decide)
        obtain ⟨y, hy, my⟩ := ixT_of (ds := x :: xs) a2 (by rw [hlen]; exact b2)
        obtain ⟨z, es4, hz, s4⟩ := ih y es3 (okPs_iff.mp hv y my) s3
        have c1 := cut_len (x :: xs) none (some r2)
        have c2 := cut_len (x :: xs) (some (r2 + 1)) none
        have c3 := cut_len (x :: xs) (some r2) (some (r2 + 1))
        have c4 := cut_len (x :: xs) (some r2) none
        simp only [List.length_cons] at hl c1 c2 c3 c4
        have d1 : dAdd (.tuple (cutD (x :: xs) none (some r2))) (.tuple (cutD (x :: xs) (some (r2 + 1)) none)) = some _ := addT' (by omega)
        have d2 : dAdd (.tuple (cutD (x :: xs) none (some r2))) (.tuple (cutD (x :: xs) (some r2) (some (r2 + 1)))) = some _ := addT' (by omega)
        by_cases h0 : r3 = 0
        · subst h0
          refine ⟨.tuple (cutD (x :: xs) none (some r2) ++ cutD (x :: xs) (some (r2 + 1)) none), es3, ?_, s3⟩
          simp [F__law_bent, B__law_bent, callD, callB, callO, args0, sSeq, sIf, sRet, sRetN, sRetO, sDrop, sAsg, sPar, sNx, sBk, sCt, sNever, eVar, eC, e1, e2, eIf, asB, eAnd, eOr, tAndM, tOrM, dNot, tNotB, aNil, aCons, mkT_ok, mkL_ok, gName, gsNil, gsCons, gTup, gLst, eChain, oNone, oSome, eSl, dIsi, dIsi2, tYesM, k0, eBor, isOl, p1, p2, p3, hr, hy, dSl, d1]
        · by_cases h1 : r3 = 1
          · subst h1
            have d3 : dAdd (.tuple (cutD (x :: xs) none (some r2) ++ cutD (x :: xs) (some r2) (some (r2 + 1)))) (.tuple (cutD (x :: xs) (some r2) none)) = some _ := addT' (by simp only [List.length_append]; omega)
            refine ⟨.tuple ((cutD (x :: xs) none (some r2) ++ cutD (x :: xs) (some r2) (some (r2 + 1))) ++ cutD (x :: xs) (some r2) none), es3, ?_, s3⟩
            simp [F__law_bent, B__law_bent, callD, callB, callO, args0, sSeq, sIf, sRet, sRetN, sRetO, sDrop, sAsg, sPar, sNx, sBk, sCt, sNever, eVar, eC, e1, e2, eIf, asB, eAnd, eOr, tAndM, tOrM, dNot, tNotB, aNil, aCons, mkT_ok, mkL_ok, gName, gsNil, gsCons, gTup, gLst, eChain, oNone, oSome, eSl, dIsi, dIsi2, tYesM, k0, eBor, isOl, p1, p2, p3, hr, hy, dSl, d2, d3, -List.append_assoc]
          · have d4 : dAdd (.tuple (cutD (x :: xs) none (some r2))) (.tuple [z]) = some _ := addT' (by simp; omega)
            have d5 : dAdd (.tuple (cutD (x :: xs) none (some r2) ++ [z])) (.tuple (cutD (x :: xs) (some (r2 + 1)) none)) = some _ := addT' (by simp only [List.length_append, List.length_singleton]; omega)
            refine ⟨.tuple ((cutD (x :: xs) none (some r2) ++ [z]) ++ cutD (x :: xs) (some (r2 + 1)) none), es4, ?_, s4⟩
            rw [F__law_bent]
            generalize F__law_bent (n + 1) = Fr at hz
            simp [B__law_bent, callD, callB, callO, args0, sSeq, sIf, sRet, sRetN, sRetO, sDrop, sAsg, sPar, sNx, sBk, sCt, sNever, eVar, eC, e1, e2, eIf, asB, eAnd, eOr, tAndM, tOrM, dNot, tNotB, aNil, aCons, mkT_ok, mkL_ok, gName, gsNil, gsCons, gTup, gLst, eChain, oNone, oSome, eSl, dIsi, dIsi2, tYesM, k0, eBor, isOl, p1, p2, p3, hr, hy, dSl, d4, d5, h0, h1, hz, -List.append_assoc]
      · obtain ⟨r, es', d, q1, q2, s⟩ := bent_tail s1
        simp only [bentL] at q2
        exact ⟨d, es', by simp [F__law_bent, B__law_bent, callD, callB, callO, args0, sSeq, sIf, sRet, sRetN, sRetO, sDrop, sAsg, sPar, sNx, sBk, sCt, sNever, eVar, eC, e1, e2, eIf, asB, eAnd, eOr, tAndM, tOrM, dNot, tNotB, aNil, aCons, mkT_ok, mkL_ok, gName, gsNil, gsCons, gTup, gLst, eChain, oNone, oSome, eSl, dIsi, dIsi2, tYesM, k0, eBor, isOl, p1, hr, addL', q1, q2], s⟩
theorem bent10 {v : D} {es : List D} (hv : okP 9 v = true) (hs : Spr es) : ∃ d es', F__law_bent 10 es [v] = some (d, es') ∧ Spr es' := bent_ok 9 v es hv hs
end VS

namespace VS
open PySem PySem.Spec PyProof.Rows L2

/-! ### loops by what they keep -/
theorem sSeq_nx {a b : MS} {ρ ρ1 : Rho} (h : a ρ = some (.nx, ρ1)) : sSeq a b ρ = b ρ1 := by simp [sSeq, h]
theorem lc_inv {t : D → Rho → Option Rho} {c : M Bool} {e : M D} {vs : List Nat} (I : Rho → Prop) : ∀ {ds : List D},
    (∀ d ∈ ds, ∀ ρ, I ρ → ∃ ρ1 ρ2 y ρ3, t d ρ = some ρ1 ∧ c ρ1 = some (true, ρ2) ∧ e ρ2 = some (y, ρ3) ∧ I (wipeR ρ3 vs)) →
    ∀ ρ, I ρ → ∃ ys ρ', lcGo t c e vs ds ρ = some (ys, ρ') ∧ I ρ' ∧ ys.length = ds.length
  | [], _, ρ, i => ⟨[], ρ, rfl, i, rfl⟩
  | d :: ds, h, ρ, i => by
    obtain ⟨ρ1, ρ2, y, ρ3, h1, h2, h3, h4⟩ := h d (.head _) ρ i
    obtain ⟨ys, ρ', q1, q2, q3⟩ := lc_inv I (fun d' hd => h d' (.tail _ hd)) _ h4
    exact ⟨y :: ys, ρ', by simp [lcGo, h1, h2, h3, q1], q2, by simp [q3]⟩
theorem for_inv {t : D → Rho → Option Rho} {b : MS} (I : Rho → Prop) : ∀ {ds : List D},
    (∀ d ∈ ds, ∀ ρ, I ρ → ∃ ρ1 ρ2, t d ρ = some ρ1 ∧ b ρ1 = some (.nx, ρ2) ∧ I ρ2) →
    ∀ ρ, I ρ → ∃ ρ', forGo t b ds ρ = some (.nx, ρ') ∧ I ρ'
  | [], _, ρ, i => ⟨ρ, rfl, i⟩
  | d :: ds, h, ρ, i => by
    obtain ⟨ρ1, ρ2, h1, h2, h3⟩ := h d (.head _) ρ i
    obtain ⟨ρ', q1, q2⟩ := for_inv I (fun d' hd => h d' (.tail _ hd)) _ h3
    exact ⟨ρ', by simp [forGo, h1, h2, q1], q2⟩
theorem lc_invP {t : D → Rho → Option Rho} {c : M Bool} {e : M D} {vs : List Nat} (I : Rho → Prop) (P : D → Prop) : ∀ {ds : List D},
    (∀ d ∈ ds, ∀ ρ, I ρ → ∃ ρ1 ρ2 y ρ3, t d ρ = some ρ1 ∧ c ρ1 = some (true, ρ2) ∧ e ρ2 = some (y, ρ3) ∧ I (wipeR ρ3 vs) ∧ P y) →
    ∀ ρ, I ρ → ∃ ys ρ', lcGo t c e vs ds ρ = some (ys, ρ') ∧ I ρ' ∧ ys.length = ds.length ∧ ∀ y ∈ ys, P y
  | [], _, ρ, i => ⟨[], ρ, rfl, i, rfl, by simp⟩
  | d :: ds, h, ρ, i => by
    obtain ⟨ρ1, ρ2, y, ρ3, h1, h2, h3, h4, h5⟩ := h d (.head _) ρ i
    obtain ⟨ys, ρ', q1, q2, q3, q4⟩ := lc_invP I P (fun d' hd => h d' (.tail _ hd)) _ h4
    exact ⟨y :: ys, ρ', by simp [lcGo, h1, h2, h3, q1], q2, by simp [q3], fun z hz => by
      rcases List.mem_cons.mp hz with rfl | hz
      · exact h5
      · exact q4 z hz⟩
theorem asgS_of {f : M D} {t : D → Rho → Option Rho} {ρ ρ1 ρ2 : Rho} {d : D} (h1 : f ρ = some (d, ρ1)) (h2 : t d ρ1 = some ρ2) : sAsg f t ρ = some (.nx, ρ2) := by simp [sAsg, h1, h2]
theorem e2S_of {op : D → D → Option D} {a b : M D} {ρ ρ1 ρ2 : Rho} {x y z : D} (h1 : a ρ = some (x, ρ1)) (h2 : b ρ1 = some (y, ρ2)) (h3 : op x y = some z) : e2 op a b ρ = some (z, ρ2) := by simp [e2, h1, h2, h3]
theorem forS_of {it : M (List D)} {t : D → Rho → Option Rho} {b : MS} {ds : List D} {ρ ρ1 ρ2 : Rho} {fl : Fl} (h1 : it ρ = some (ds, ρ1)) (h2 : forGo t b ds ρ1 = some (fl, ρ2)) : sFor it t b ρ = some (fl, ρ2) := by simp [sFor, h1, h2]
theorem for_invN {t : D → Rho → Option Rho} {b : MS} (N : Nat) (I : Nat → Rho → Prop) : ∀ {ds : List D} (k : Nat), k + ds.length ≤ N →
    (∀ d ∈ ds, ∀ k ρ, k < N → I k ρ → ∃ ρ1 ρ2, t d ρ = some ρ1 ∧ b ρ1 = some (.nx, ρ2) ∧ I (k + 1) ρ2) →
    ∀ ρ, I k ρ → ∃ ρ', forGo t b ds ρ = some (.nx, ρ') ∧ I (k + ds.length) ρ'
  | [], k, _, _, ρ, i => ⟨ρ, rfl, i⟩
  | d :: ds, k, hk, h, ρ, i => by
    obtain ⟨ρ1, ρ2, h1, h2, h3⟩ := h d (.head _) k ρ (by simp at hk; omega) i
    obtain ⟨ρ', q1, q2⟩ := for_invN N I (k + 1) (by simp at hk ⊢; omega) (fun d' hd => h d' (.tail _ hd)) _ h3
    exact ⟨ρ', by simp [forGo, h1, h2, q1], by rw [List.length_cons, show k + (ds.length + 1) = k + 1 + ds.length by omega]; exact q2⟩
def nol (x : Option SV) : Prop := ∀ l, x ≠ some (.ol l)
theorem nol_none : nol none := fun _ z => by cases z
theorem nol_dat {d : D} : nol (some (.dat d)) := fun _ z => by cases z
theorem isOl_no {ρ : Rho} {j : Nat} {x : Option SV} (h : ρ[j]? = some x) (n : nol x) : isOl ρ j = none := by
  unfold isOl
  rw [h]
  cases x with
  | none => rfl
  | some sv => cases sv with
    | dat d => rfl
    | ol l => exact absurd rfl (n l)
theorem rg_len (lo : Int) (n : Nat) : (rgD lo n).length = n := by simp [rgD]
theorem rg_mem {lo : Int} {n : Nat} {d : D} (h : d ∈ rgD lo n) : ∃ i : Nat, i < n ∧ d = .int (lo + i) := by
  unfold rgD at h
  obtain ⟨i, hi, rfl⟩ := List.mem_map.mp h
  exact ⟨i, by simpa using hi, rfl⟩
theorem iR1_ok {r : Int} (h0 : 0 ≤ r) (h1 : r < 1000000) : iR1 [.int r] = some (rgD 0 r.toNat) := if_pos (by omega)
theorem okPs_ints (n : Nat) (l : List Int) : okPs n (l.map .int) = true := by
  induction l with
  | nil => simp [okPs]
  | cons i l ih => simp [okPs, ih]; cases n <;> rfl
theorem okP_int (n : Nat) (i : Int) : okP n (.int i) = true := by cases n <;> rfl
theorem okP_bool (n : Nat) (i : Bool) : okP n (.bool i) = true := by cases n <;> rfl
theorem okP_str (n : Nat) (x : Str) : okP n (.str x) = PyData.strOk x := by cases n <;> rfl
theorem hab_okP (n : Nat) (h : Hab) : okP (n + 2) h.d = true := by simp [okP, okPs, Hab.d, okP_int, okP_bool]
theorem pln_okP (n : Nat) (p : Pln) : okP (n + 4) p.d = true := by
  have h1 := hab_okP n p.a
  have h2 := hab_okP n p.b
  simp [okP, okPs, Pln.d, okP_int, okP_bool, h1, h2]
theorem prt_okP (n : Nat) (p : Prt) : okP (n + 1) p.d = true := by simp [okP, okPs, Prt.d, okP_int, okP_str]
theorem line_okP (n : Nat) {l : List Int} (h : l.length ≤ 30000) : okP (n + 1) (lineD l) = true := by simp [okP, lineD, okPs_ints, h]
theorem std_okP (n : Nat) {p : Pln} (k : p.Sh) {s : Std} (o : s.Ok p) : okP (n + 3) s.d = true := by
  have h1 := o.okl.1
  have h2 := o.okm.1
  have h3 := k.x2
  have h4 := k.y2
  have q1 := line_okP n (l := s.l) (by omega)
  have q2 := line_okP n (l := s.m) (by omega)
  simp [okP, okPs, Std.d, prt_okP, q1, q2]
theorem twins_yes {n : Nat} {d : D} (h : okP n d = true) : F__law_twins (n + 1) [d, d] = some (.bool true) := by rw [twins_eq n d d h h]; simp
/-- a row among the choices -/
theorem ch_pick {p : Pln} {s : Std} {r : Int} (h0 : 0 ≤ r) (h1 : r < (chs p s).length) : ∃ c, dIx (chD (chs p s)) (.int r) = some (prD c) ∧ c ∈ chs p s := by
  obtain ⟨d, q, m⟩ := ixL_of (ds := (chs p s).map prD) h0 (by simpa using h1)
  obtain ⟨c, hc, rfl⟩ := List.mem_map.mp m
  exact ⟨c, q, hc⟩
theorem ch_len (p : Pln) (s : Std) : fLen [chD (chs p s)] = some (.int (chs p s).length) := by simp [chD]
/-- the script's turns -/
theorem turns_ok (script : List Int) (m : Int) (h0 : 0 ≤ m) (h1 : m < 1000) : iR1 [.int ((if m < (script.length : Int) then m else (script.length : Int)) + 1)] = some (rgD 0 ((if m < (script.length : Int) then m else (script.length : Int)) + 1).toNat) :=
  iR1_ok (by split <;> omega) (by split <;> omega)
theorem ints_of : ∀ {ys : List D}, (∀ y ∈ ys, ∃ i : Int, y = .int i ∧ 0 ≤ i ∧ i ≤ 3) → ∃ l : List Int, ys = l.map .int ∧ ∀ i ∈ l, 0 ≤ i ∧ i ≤ 3
  | [], _ => ⟨[], rfl, by simp⟩
  | y :: ys, h => by
    obtain ⟨i, rfl, h1⟩ := h y (.head _)
    obtain ⟨l, rfl, h2⟩ := ints_of fun z hz => h z (.tail _ hz)
    exact ⟨i :: l, rfl, by simpa using ⟨h1, h2⟩⟩
theorem dones_len (p : Pln) (s : Std) (c : Bool × Bool) : (dones p s c).length ≤ 2 := by
  unfold dones
  split <;> split <;> simp
theorem vs_okP (n : Nat) (v : Int × Int) : okP (n + 1) (vsD v) = true := by simp [okP, okPs, vsD, okP_int]
theorem pr_okP (n : Nat) (c : Bool × Bool) : okP (n + 1) (prD c) = true := by simp [okP, okPs, prD, okP_bool]
theorem ch_okP (n : Nat) (p : Pln) (s : Std) : okP (n + 2) (chD (chs p s)) = true := by
  have h := chs_len p s
  have : okPs (n + 1) ((chs p s).map prD) = true := okPs_iff.mpr fun d hd => by
    obtain ⟨c, _, rfl⟩ := List.mem_map.mp hd
    exact pr_okP n c
  simp [okP, chD, this]; omega
theorem ears_okP (n : Nat) (s : Std) : okP (n + 1) (earsD s) = true := by simp [okP, okPs, earsD, okP_int]
theorem dones_okP (n : Nat) (p : Pln) (s : Std) (c : Bool × Bool) : okP (n + 1) (lineD (dones p s c)) = true := line_okP n (Nat.le_trans (dones_len p s c) (by decide))
theorem list_okP {n : Nat} {ds : List D} (h : ds.length ≤ 30000) (k : ∀ d ∈ ds, okP n d = true) : okP (n + 1) (.list ds) = true := by
  have := okPs_iff.mpr k
  simp [okP, this, h]
end VS

namespace VS
open PySem PySem.Spec PyProof.Rows L2
def topS (i : Nat) : Stmt := PySem.Challenge.pw_lagtalk_k03_stands_of_any_kind.main.body.getD i (.Pass ⟨0, 0, 0, 0⟩)
structure Glob (K : PySem.W.Frag) (mg : Str → Option Value) : Prop where
  z_abs : mg "abs" = none
  z_all : mg "all" = none
  z_bool : mg "bool" = none
  z_int : mg "int" = none
  z_isinstance : mg "isinstance" = none
  z_len : mg "len" = none
  z_list : mg "list" = none
  z_min : mg "min" = none
  z_range : mg "range" = none
  z_str : mg "str" = none
  z_tuple : mg "tuple" = none
  z_zip : mg "zip" = none
  c_HEARINGS : GCm K mg "HEARINGS" c_HEARINGS
  c_MOST_SIZE : GCm K mg "MOST_SIZE" c_MOST_SIZE
  c_QUIET : GCm K mg "QUIET" c_QUIET
  c_SPEAKS : GCm K mg "SPEAKS" c_SPEAKS
/-- law(script); slots: 0 script 1 at 2 spring 3 plan 4 turn 5 parts 6 lines 7 stand 8 choice 9 rows 10 ears 11 told 12 there 13 voices 14 done 15 delay 16 place -/
def L_law_0 : MS :=
  (sSeq (sAsg (e1 F__law_tick (aCons (eVar 3) (aCons (eVar 7) (aCons (eVar 8) aNil)))) (gTup (gsCons (gName 12) (gsCons (gName 13) (gsCons (gName 14) gsNil)))))
  (sSeq (sAsg (e1 mkL (aCons (e1 F_said (aCons (eVar 3) (aCons (eVar 7) (aCons (eVar 8) aNil)))) (aCons (e1 F_after (aCons (eVar 3) (aCons (eVar 7) (aCons (eVar 8) aNil)))) (aCons (e1 F_whole (aCons (eVar 3) (aCons (eVar 7) (aCons (eVar 8) aNil)))) aNil)))) (gName 11))
  (sIf (e1 tNotB (e1 asB (e1 (F__law_twins 10) (aCons (eVar 11) (aCons (e1 mkL (aCons (eVar 13) (aCons (eVar 12) (aCons (eVar 14) aNil)))) aNil))))) (sRet (eC (.bool false))) sNx)))
def L_law_1 : MS :=
  (sSeq (sAsg (e1 mkT (aCons (eBor 2 F__law_any_part (aCons (e2 dIx (e2 dIx (eVar 3) (eC (.int 0))) (eC (.int 0))) aNil)) (aCons (eBor 2 F__law_any_part (aCons (e2 dIx (e2 dIx (eVar 3) (eC (.int 0))) (eC (.int 1))) aNil)) aNil))) (gName 5))
  (sSeq (sAsg (e1 fTuple (aCons (eLc (e1 iSeq (e2 dIx (eVar 3) (eC (.int 1)))) (gName 15) tYesM (e1 fTuple (aCons (eLc (e1 iR1 (aCons (eVar 15) aNil)) (gName 16) tYesM (eBor 2 F__law_pick (aCons (eC (.int 4)) aNil)) [16]) aNil)) [15]) aNil)) (gName 6))
  (sSeq (sAsg (e1 mkT (aCons (eVar 5) (aCons (eVar 6) aNil))) (gName 7))
  (sSeq (sPar [9, 10] (aCons (e1 F__law_choices (aCons (eVar 3) (aCons (eVar 7) aNil))) (aCons (e1 mkT (aCons (e2 dIx (e2 dIx (eVar 6) (eC (.int 1))) (eC (.int 0))) (aCons (e2 dIx (e2 dIx (eVar 6) (eC (.int 0))) (eC (.int 0))) aNil))) aNil)))
  (sSeq (sIf (e1 tNotB (e1 asB (e1 (F__law_twins 10) (aCons (e1 mkL (aCons (e1 F_choices_at (aCons (eVar 3) (aCons (eVar 7) aNil))) (aCons (e1 F_heard (aCons (eVar 3) (aCons (eVar 7) aNil))) aNil))) (aCons (e1 mkL (aCons (eVar 9) (aCons (eVar 10) aNil))) aNil))))) (sRet (eC (.bool false))) sNx)
  (sFor (e1 iSeq (eVar 9)) (gName 8) L_law_0))))))
def L_law_2 : MS :=
  (sSeq (sOwnC 2 F__law_spring (aCons (eVar 0) (aCons (eVar 1) aNil)))
  (sSeq (sAsg (eBor 2 F__law_plan (aCons (eC (.int 10000)) aNil)) (gName 3))
  (sFor (e1 iR1 (aCons (eC (.int 20)) aNil)) (gName 4) L_law_1)))
def B_law : MS :=
  (sSeq (sFor (e1 iR1 (aCons (e2 dAdd (e1 fMin2 (aCons (e1 fLen (aCons (eVar 0) aNil)) (aCons (eC (.int 7)) aNil))) (eC (.int 1))) aNil)) (gName 1) L_law_2)
  (sRet (eC (.bool true))))
def F_law : List D → Option D := callD 17 1 (B_law)
section
variable {P : Program} {w : World} {K : PySem.W.Frag} {mg : Str → Option Value} {base : Heap} {T : Tb}
abbrev s_is_within : Stmt := topS 10
abbrev N_is_within : List Str := ["value", "low", "high"]
abbrev p_is_within : List Str := ["value", "low", "high"]
theorem sc_is_within : FnScope N_is_within p_is_within (defScope s_is_within) := ⟨rfl, rfl, rfl, by decide +kernel, rfl, by decide +kernel, by decide +kernel⟩
theorem d_is_within (Z : Glob K mg) (Dx : Df K mg "is_within" "is_within" s_is_within p_is_within)  : DOk P w K mg base 1 "is_within" (spD K T F_is_within) := by
  refine dok_data (body := B_is_within) Dx sc_is_within rfl rfl fun f cdv A outer s H E hr => ?_
  have nd := (sc_is_within).nd
  unfold B_is_within
  exact (qss_one (q_ret (q_and (q_isi .int (q_var 0) rfl Z.z_isinstance Z.z_int) (q_and (q_not (q_isi .bool (q_var 0) rfl Z.z_isinstance Z.z_bool)) (q_one (q_chain o_le o_le (q_var 1) (q_var 0) (q_var 2)))))))
abbrev s_is_span : Stmt := topS 11
abbrev N_is_span : List Str := ["value", "low", "high"]
abbrev p_is_span : List Str := ["value", "low", "high"]
theorem sc_is_span : FnScope N_is_span p_is_span (defScope s_is_span) := ⟨rfl, rfl, rfl, by decide +kernel, rfl, by decide +kernel, by decide +kernel⟩
theorem d_is_span (Z : Glob K mg) (Dx : Df K mg "is_span" "is_span" s_is_span p_is_span) (D_is_within : DOk P w K mg base 1 "is_within" (spD K T F_is_within)) : DOk P w K mg base 2 "is_span" (spD K T F_is_span) := by
  refine dok_data (body := B_is_span) Dx sc_is_span rfl rfl fun f cdv A outer s H E hr => ?_
  have nd := (sc_is_span).nd
  unfold B_is_span
  exact (qss_cons (q_ifS (qt_w (qw_or (qt_not (qt_val (q_isi .tup (q_var 0) rfl Z.z_isinstance Z.z_tuple))) (qw_or1 (qt_cmp (o_ne hr) (q_callB f_len Z.z_len PySem.boot_len (qa_cons (q_var 0) qa_nil)) q_int)))) (qss_one (q_ret q_bl)) qss_nil)
  (qss_one (q_ret (q_and (q_call (D_is_within.at hr) (qa_cons (q_ix i_any (q_var 0) q_int) (qa_cons (q_var 1) (qa_cons (q_var 2) qa_nil)))) (q_one (q_call (D_is_within.at hr) (qa_cons (q_ix i_any (q_var 0) q_int) (qa_cons (q_ix i_any (q_var 0) q_int) (qa_cons (q_var 2) qa_nil)))))))))
abbrev s_is_habit : Stmt := topS 12
abbrev N_is_habit : List Str := ["value"]
abbrev p_is_habit : List Str := ["value"]
theorem sc_is_habit : FnScope N_is_habit p_is_habit (defScope s_is_habit) := ⟨rfl, rfl, rfl, by decide +kernel, rfl, by decide +kernel, by decide +kernel⟩
theorem d_is_habit (Z : Glob K mg) (Dx : Df K mg "is_habit" "is_habit" s_is_habit p_is_habit) (D_is_span : DOk P w K mg base 2 "is_span" (spD K T F_is_span)) : DOk P w K mg base 3 "is_habit" (spD K T F_is_habit) := by
  refine dok_data (body := B_is_habit) Dx sc_is_habit rfl rfl fun f cdv A outer s H E hr => ?_
  have nd := (sc_is_habit).nd
  unfold B_is_habit
  exact (qss_cons (q_ifS (qt_w (qw_or (qt_not (qt_val (q_isi .tup (q_var 0) rfl Z.z_isinstance Z.z_tuple))) (qw_or1 (qt_cmp (o_ne hr) (q_callB f_len Z.z_len PySem.boot_len (qa_cons (q_var 0) qa_nil)) q_int)))) (qss_one (q_ret q_bl)) qss_nil)
  (qss_cons (q_ifS (qt_w (qw_or (qt_not (qt_val (q_call (D_is_span.at hr) (qa_cons (q_ix i_any (q_var 0) q_int) (qa_cons q_int (qa_cons q_int qa_nil)))))) (qw_or1 (qt_not (qt_val (q_call (D_is_span.at hr) (qa_cons (q_ix i_any (q_var 0) q_int) (qa_cons q_int (qa_cons q_int qa_nil))))))))) (qss_one (q_ret q_bl)) qss_nil)
  (qss_one (q_ret (q_and (q_isi .bool (q_ix i_any (q_var 0) q_int) rfl Z.z_isinstance Z.z_bool) (q_one (q_isi .bool (q_ix i_any (q_var 0) q_int) rfl Z.z_isinstance Z.z_bool)))))))
abbrev s_size_of : Stmt := topS 13
abbrev N_size_of : List Str := ["plan", "found", "delay", "sentence", "wait", "stops", "eager"]
abbrev p_size_of : List Str := ["plan"]
theorem sc_size_of : FnScope N_size_of p_size_of (defScope s_size_of) := ⟨rfl, rfl, rfl, by decide +kernel, rfl, by decide +kernel, by decide +kernel⟩
theorem d_size_of (Z : Glob K mg) (Dx : Df K mg "size_of" "size_of" s_size_of p_size_of)  : DOk P w K mg base 1 "size_of" (spD K T F_size_of) := by
  refine dok_data (body := B_size_of) Dx sc_size_of rfl rfl fun f cdv A outer s H E hr => ?_
  have nd := (sc_size_of).nd
  unfold B_size_of
  exact (qss_cons (q_set 1 nd q_int)
  (qss_cons (q_for (qi_zip Z.z_zip (qa_cons (q_ix i_any (q_var 0) q_int) (qa_cons (q_ix i_any (q_var 0) q_int) qa_nil))) (qg_tup (qgs_cons (qg_tup (qgs_cons (qg_name 3 nd) (qgs_cons (qg_name 4 nd) (qgs_cons (qg_name 5 nd) (qgs_cons (qg_name 6 nd) qgs_nil)))) (glen_cons (glen_cons (glen_cons (glen_cons glen_nil))))) (qgs_cons (qg_name 2 nd) qgs_nil)) (glen_cons (glen_cons glen_nil))) (qss_one (q_set 1 nd (q_bin o_mul (q_bin o_mul (q_bin o_mul (q_var 1) q_int) (q_bin o_add (q_bin o_add (q_ix i_any (q_var 4) q_int) (q_ix i_any (q_var 3) q_int)) q_int)) (q_bin o_add (q_bin o_mul q_int (q_var 2)) q_int)))))
  (qss_one (q_ret (q_var 1)))))
abbrev s_is_plan : Stmt := topS 14
abbrev N_is_plan : List Str := ["value", "part", "habit", "delay"]
abbrev p_is_plan : List Str := ["value"]
theorem sc_is_plan : FnScope N_is_plan p_is_plan (defScope s_is_plan) := ⟨rfl, rfl, rfl, by decide +kernel, rfl, by decide +kernel, by decide +kernel⟩
theorem d_is_plan (Z : Glob K mg) (Dx : Df K mg "is_plan" "is_plan" s_is_plan p_is_plan) (D_is_habit : DOk P w K mg base 3 "is_habit" (spD K T F_is_habit)) (D_is_within : DOk P w K mg base 1 "is_within" (spD K T F_is_within)) (D_size_of : DOk P w K mg base 1 "size_of" (spD K T F_size_of)) : DOk P w K mg base 4 "is_plan" (spD K T F_is_plan) := by
  refine dok_data (body := B_is_plan) Dx sc_is_plan rfl rfl fun f cdv A outer s H E hr => ?_
  have nd := (sc_is_plan).nd
  unfold B_is_plan
  exact (qss_cons (q_ifS (qt_w (qw_or (qt_not (qt_val (q_isi .tup (q_var 0) rfl Z.z_isinstance Z.z_tuple))) (qw_or (qt_cmp (o_ne hr) (q_callB f_len Z.z_len PySem.boot_len (qa_cons (q_var 0) qa_nil)) q_int) (qw_or1 (qt_not (qt_val (q_isi .bool (q_ix i_any (q_var 0) q_int) rfl Z.z_isinstance Z.z_bool))))))) (qss_one (q_ret q_bl)) qss_nil)
  (qss_cons (q_ifS (qt_not (qt_val (q_callB (f_all) Z.z_all boot_all (qa_cons (q_lc [("part", 1)] nd (qi_seq (q_slice (q_var 0) qo_none (qo_some q_int))) (blkOk_by (N := N_is_plan) (sc := (defScope s_is_plan)) (by decide +kernel)) (by decide) (fun _ _ _ _ _ => (qg_name 1 nd)) (fun _ _ _ _ _ => qts_nil) (fun _ _ _ _ _ => (q_and (q_isi .tup (q_var 1) rfl Z.z_isinstance Z.z_tuple) (q_one (q_cmp (o_eq hr) (q_callB f_len Z.z_len PySem.boot_len (qa_cons (q_var 1) qa_nil)) q_int))))) qa_nil)))) (qss_one (q_ret q_bl)) qss_nil)
  (qss_cons (q_ifS (qt_not (qt_val (q_callB (f_all) Z.z_all boot_all (qa_cons (q_lc [("habit", 2)] nd (qi_seq (q_ix i_any (q_var 0) q_int)) (blkOk_by (N := N_is_plan) (sc := (defScope s_is_plan)) (by decide +kernel)) (by decide) (fun _ _ _ _ _ => (qg_name 2 nd)) (fun _ _ _ _ _ => qts_nil) (fun _ _ _ _ _ => (q_call (D_is_habit.at hr) (qa_cons (q_var 2) qa_nil)))) qa_nil)))) (qss_one (q_ret q_bl)) qss_nil)
  (qss_one (q_ret (q_and (q_callB (f_all) Z.z_all boot_all (qa_cons (q_lc [("delay", 3)] nd (qi_seq (q_ix i_any (q_var 0) q_int)) (blkOk_by (N := N_is_plan) (sc := (defScope s_is_plan)) (by decide +kernel)) (by decide) (fun _ _ _ _ _ => (qg_name 3 nd)) (fun _ _ _ _ _ => qts_nil) (fun _ _ _ _ _ => (q_call (D_is_within.at hr) (qa_cons (q_var 3) (qa_cons q_int (qa_cons q_int qa_nil)))))) qa_nil)) (q_one (q_cmp o_le (q_call (D_size_of.at hr) (qa_cons (q_var 0) qa_nil)) (q_gc Z.c_MOST_SIZE)))))))))
abbrev s_look_at_plan : Stmt := topS 15
abbrev N_look_at_plan : List Str := ["plan"]
abbrev p_look_at_plan : List Str := ["plan"]
theorem sc_look_at_plan : FnScope N_look_at_plan p_look_at_plan (defScope s_look_at_plan) := ⟨rfl, rfl, rfl, by decide +kernel, rfl, by decide +kernel, by decide +kernel⟩
theorem d_look_at_plan (Z : Glob K mg) (Dx : Df K mg "look_at_plan" "look_at_plan" s_look_at_plan p_look_at_plan) (D_is_plan : DOk P w K mg base 4 "is_plan" (spD K T F_is_plan)) : DOk P w K mg base 5 "look_at_plan" (spD K T F_look_at_plan) := by
  refine dok_data (body := B_look_at_plan) Dx sc_look_at_plan rfl rfl fun f cdv A outer s H E hr => ?_
  have nd := (sc_look_at_plan).nd
  unfold B_look_at_plan
  exact (qss_one (q_ifS (qt_not (qt_val (q_call (D_is_plan.at hr) (qa_cons (q_var 0) qa_nil)))) (qss_one q_never) qss_nil))
abbrev s_is_part : Stmt := topS 16
abbrev N_is_part : List Str := ["habit", "value", "at"]
abbrev p_is_part : List Str := ["habit", "value"]
theorem sc_is_part : FnScope N_is_part p_is_part (defScope s_is_part) := ⟨rfl, rfl, rfl, by decide +kernel, rfl, by decide +kernel, by decide +kernel⟩
theorem d_is_part (Z : Glob K mg) (Dx : Df K mg "is_part" "is_part" s_is_part p_is_part) (D_is_within : DOk P w K mg base 1 "is_within" (spD K T F_is_within)) : DOk P w K mg base 2 "is_part" (spD K T F_is_part) := by
  refine dok_data (body := B_is_part) Dx sc_is_part rfl rfl fun f cdv A outer s H E hr => ?_
  have nd := (sc_is_part).nd
  unfold B_is_part
  exact (qss_cons (q_ifS (qt_w (qw_or (qt_not (qt_val (q_isi .tup (q_var 1) rfl Z.z_isinstance Z.z_tuple))) (qw_or (qt_cmp (o_ne hr) (q_callB f_len Z.z_len PySem.boot_len (qa_cons (q_var 1) qa_nil)) q_int) (qw_or1 (qt_not (qt_val (q_callB (f_all) Z.z_all boot_all (qa_cons (q_lc [("at", 2)] nd (qi_seq (q_tup (qa_cons q_int (qa_cons q_int qa_nil)))) (blkOk_by (N := N_is_part) (sc := (defScope s_is_part)) (by decide +kernel)) (by decide) (fun _ _ _ _ _ => (qg_name 2 nd)) (fun _ _ _ _ _ => qts_nil) (fun _ _ _ _ _ => (q_isi .str (q_ix i_any (q_var 1) (q_var 2)) rfl Z.z_isinstance Z.z_str))) qa_nil)))))))) (qss_one (q_ret q_bl)) qss_nil)
  (qss_cons (q_ifS (qt_w (qw_or (qt_cmp (o_nin hr) (q_ix i_any (q_var 1) q_int) (q_gc Z.c_HEARINGS)) (qw_or1 (qt_cmp (o_nin hr) (q_ix i_any (q_var 1) q_int) (q_tup (qa_cons (q_gc Z.c_QUIET) (qa_cons (q_gc Z.c_SPEAKS) qa_nil))))))) (qss_one (q_ret q_bl)) qss_nil)
  (qss_cons (q_ifS (qt_cmp (o_eq hr) (q_ix i_any (q_var 1) q_int) (q_gc Z.c_QUIET)) (qss_one (q_ret (q_call (D_is_within.at hr) (qa_cons (q_ix i_any (q_var 1) q_int) (qa_cons q_int (qa_cons (q_ix i_any (q_ix i_any (q_var 0) q_int) q_int) qa_nil)))))) qss_nil)
  (qss_one (q_ret (q_call (D_is_within.at hr) (qa_cons (q_ix i_any (q_var 1) q_int) (qa_cons q_int (qa_cons (q_bin o_isub (q_ix i_any (q_ix i_any (q_var 0) q_int) q_int) q_int) qa_nil)))))))))
abbrev s_is_line : Stmt := topS 17
abbrev N_is_line : List Str := ["delay", "value", "sign"]
abbrev p_is_line : List Str := ["delay", "value"]
theorem sc_is_line : FnScope N_is_line p_is_line (defScope s_is_line) := ⟨rfl, rfl, rfl, by decide +kernel, rfl, by decide +kernel, by decide +kernel⟩
theorem d_is_line (Z : Glob K mg) (Dx : Df K mg "is_line" "is_line" s_is_line p_is_line) (D_is_within : DOk P w K mg base 1 "is_within" (spD K T F_is_within)) : DOk P w K mg base 2 "is_line" (spD K T F_is_line) := by
  refine dok_data (body := B_is_line) Dx sc_is_line rfl rfl fun f cdv A outer s H E hr => ?_
  have nd := (sc_is_line).nd
  unfold B_is_line
  exact (qss_one (q_ret (q_and (q_isi .tup (q_var 1) rfl Z.z_isinstance Z.z_tuple) (q_and (q_cmp (o_eq hr) (q_callB f_len Z.z_len PySem.boot_len (qa_cons (q_var 1) qa_nil)) (q_var 0)) (q_one (q_callB (f_all) Z.z_all boot_all (qa_cons (q_lc [("sign", 2)] nd (qi_seq (q_var 1)) (blkOk_by (N := N_is_line) (sc := (defScope s_is_line)) (by decide +kernel)) (by decide) (fun _ _ _ _ _ => (qg_name 2 nd)) (fun _ _ _ _ _ => qts_nil) (fun _ _ _ _ _ => (q_call (D_is_within.at hr) (qa_cons (q_var 2) (qa_cons q_int (qa_cons q_int qa_nil)))))) qa_nil)))))))
abbrev s_fits : Stmt := topS 18
abbrev N_fits : List Str := ["plan", "value", "part", "delay", "line", "habit"]
abbrev p_fits : List Str := ["plan", "value"]
theorem sc_fits : FnScope N_fits p_fits (defScope s_fits) := ⟨rfl, rfl, rfl, by decide +kernel, rfl, by decide +kernel, by decide +kernel⟩
theorem d_fits (Z : Glob K mg) (Dx : Df K mg "fits" "fits" s_fits p_fits) (D_is_part : DOk P w K mg base 2 "is_part" (spD K T F_is_part)) (D_is_line : DOk P w K mg base 2 "is_line" (spD K T F_is_line)) : DOk P w K mg base 3 "fits" (spD K T F_fits) := by
  refine dok_data (body := B_fits) Dx sc_fits rfl rfl fun f cdv A outer s H E hr => ?_
  have nd := (sc_fits).nd
  unfold B_fits
  exact (qss_cons (q_ifS (qt_w (qw_or (qt_not (qt_val (q_isi .tup (q_var 1) rfl Z.z_isinstance Z.z_tuple))) (qw_or1 (qt_cmp (o_ne hr) (q_callB f_len Z.z_len PySem.boot_len (qa_cons (q_var 1) qa_nil)) q_int)))) (qss_one (q_ret q_bl)) qss_nil)
  (qss_cons (q_ifS (qt_not (qt_val (q_callB (f_all) Z.z_all boot_all (qa_cons (q_lc [("part", 2)] nd (qi_seq (q_var 1)) (blkOk_by (N := N_fits) (sc := (defScope s_fits)) (by decide +kernel)) (by decide) (fun _ _ _ _ _ => (qg_name 2 nd)) (fun _ _ _ _ _ => qts_nil) (fun _ _ _ _ _ => (q_and (q_isi .tup (q_var 2) rfl Z.z_isinstance Z.z_tuple) (q_one (q_cmp (o_eq hr) (q_callB f_len Z.z_len PySem.boot_len (qa_cons (q_var 2) qa_nil)) q_int))))) qa_nil)))) (qss_one (q_ret q_bl)) qss_nil)
  (qss_cons (q_ifS (qt_not (qt_val (q_callB (f_all) Z.z_all boot_all (qa_cons (q_lc [("habit", 5), ("part", 2)] nd (qi_zip Z.z_zip (qa_cons (q_ix i_any (q_var 0) q_int) (qa_cons (q_ix i_any (q_var 1) q_int) qa_nil))) (blkOk_by (N := N_fits) (sc := (defScope s_fits)) (by decide +kernel)) (by decide) (fun _ _ _ _ _ => (qg_tup (qgs_cons (qg_name 5 nd) (qgs_cons (qg_name 2 nd) qgs_nil)) (glen_cons (glen_cons glen_nil)))) (fun _ _ _ _ _ => qts_nil) (fun _ _ _ _ _ => (q_call (D_is_part.at hr) (qa_cons (q_var 5) (qa_cons (q_var 2) qa_nil))))) qa_nil)))) (qss_one (q_ret q_bl)) qss_nil)
  (qss_one (q_ret (q_callB (f_all) Z.z_all boot_all (qa_cons (q_lc [("delay", 3), ("line", 4)] nd (qi_zip Z.z_zip (qa_cons (q_ix i_any (q_var 0) q_int) (qa_cons (q_ix i_any (q_var 1) q_int) qa_nil))) (blkOk_by (N := N_fits) (sc := (defScope s_fits)) (by decide +kernel)) (by decide) (fun _ _ _ _ _ => (qg_tup (qgs_cons (qg_name 3 nd) (qgs_cons (qg_name 4 nd) qgs_nil)) (glen_cons (glen_cons glen_nil)))) (fun _ _ _ _ _ => qts_nil) (fun _ _ _ _ _ => (q_call (D_is_line.at hr) (qa_cons (q_var 3) (qa_cons (q_var 4) qa_nil))))) qa_nil)))))))
abbrev s_look_at_stand : Stmt := topS 19
abbrev N_look_at_stand : List Str := ["plan", "stand"]
abbrev p_look_at_stand : List Str := ["plan", "stand"]
theorem sc_look_at_stand : FnScope N_look_at_stand p_look_at_stand (defScope s_look_at_stand) := ⟨rfl, rfl, rfl, by decide +kernel, rfl, by decide +kernel, by decide +kernel⟩
theorem d_look_at_stand (Z : Glob K mg) (Dx : Df K mg "look_at_stand" "look_at_stand" s_look_at_stand p_look_at_stand) (D_fits : DOk P w K mg base 3 "fits" (spD K T F_fits)) : DOk P w K mg base 4 "look_at_stand" (spD K T F_look_at_stand) := by
  refine dok_data (body := B_look_at_stand) Dx sc_look_at_stand rfl rfl fun f cdv A outer s H E hr => ?_
  have nd := (sc_look_at_stand).nd
  unfold B_look_at_stand
  exact (qss_one (q_ifS (qt_not (qt_val (q_call (D_fits.at hr) (qa_cons (q_var 0) (qa_cons (q_var 1) qa_nil))))) (qss_one q_never) qss_nil))
abbrev s_ways_of : Stmt := topS 21
abbrev N_ways_of : List Str := ["habit", "part", "sentence", "wait", "stops", "eager", "no", "yes"]
abbrev p_ways_of : List Str := ["habit", "part"]
theorem sc_ways_of : FnScope N_ways_of p_ways_of (defScope s_ways_of) := ⟨rfl, rfl, rfl, by decide +kernel, rfl, by decide +kernel, by decide +kernel⟩
theorem d_ways_of (Z : Glob K mg) (Dx : Df K mg "ways_of" "ways_of" s_ways_of p_ways_of)  : DOk P w K mg base 1 "ways_of" (spD K T F_ways_of) := by
  refine dok_data (body := B_ways_of) Dx sc_ways_of rfl rfl fun f cdv A outer s H E hr => ?_
  have nd := (sc_ways_of).nd
  unfold B_ways_of
  exact (qss_cons (q_asg (q_var 0) (qg_tup (qgs_cons (qg_name 2 nd) (qgs_cons (qg_name 3 nd) (qgs_cons (qg_name 4 nd) (qgs_cons (qg_name 5 nd) qgs_nil)))) (glen_cons (glen_cons (glen_cons (glen_cons glen_nil))))))
  (qss_cons (q_ifS (qt_cmp (o_eq hr) (q_ix i_any (q_var 1) q_int) (q_gc Z.c_QUIET)) (qss_one (q_par 6 7 nd (qa_cons (q_or (q_not (q_var 5)) (q_one (q_cmp o_lt (q_ix i_any (q_var 1) q_int) (q_ix i_any (q_var 3) q_int)))) (qa_cons (q_cmp o_ge (q_ix i_any (q_var 1) q_int) (q_ix i_any (q_var 3) q_int)) qa_nil)))) (qss_one (q_par 6 7 nd (qa_cons (q_cmp o_lt (q_bin o_add (q_ix i_any (q_var 1) q_int) q_int) (q_ix i_any (q_var 2) q_int)) (qa_cons (q_cmp o_ge (q_bin o_add (q_ix i_any (q_var 1) q_int) q_int) (q_ix i_any (q_var 2) q_int)) qa_nil)))))
  (qss_one (q_ret (q_bin o_add (q_bin o_mul (q_lst (qa_cons q_bl qa_nil)) (q_callTy f_int Z.z_int boot_int (qa_cons (q_var 6) qa_nil))) (q_bin o_mul (q_lst (qa_cons q_bl qa_nil)) (q_callTy f_int Z.z_int boot_int (qa_cons (q_var 7) qa_nil))))))))
abbrev s_choices_of : Stmt := topS 22
abbrev N_choices_of : List Str := ["plan", "stand", "first", "second", "one", "other", "habit", "part"]
abbrev p_choices_of : List Str := ["plan", "stand"]
theorem sc_choices_of : FnScope N_choices_of p_choices_of (defScope s_choices_of) := ⟨rfl, rfl, rfl, by decide +kernel, rfl, by decide +kernel, by decide +kernel⟩
theorem d_choices_of (Z : Glob K mg) (Dx : Df K mg "choices_of" "choices_of" s_choices_of p_choices_of) (D_ways_of : DOk P w K mg base 1 "ways_of" (spD K T F_ways_of)) : DOk P w K mg base 2 "choices_of" (spD K T F_choices_of) := by
  refine dok_data (body := B_choices_of) Dx sc_choices_of rfl rfl fun f cdv A outer s H E hr => ?_
  have nd := (sc_choices_of).nd
  unfold B_choices_of
  exact (qss_cons (q_asg (q_lc [("habit", 6), ("part", 7)] nd (qi_zip Z.z_zip (qa_cons (q_ix i_any (q_var 0) q_int) (qa_cons (q_ix i_any (q_var 1) q_int) qa_nil))) (blkOk_by (N := N_choices_of) (sc := (defScope s_choices_of)) (by decide +kernel)) (by decide) (fun _ _ _ _ _ => (qg_tup (qgs_cons (qg_name 6 nd) (qgs_cons (qg_name 7 nd) qgs_nil)) (glen_cons (glen_cons glen_nil)))) (fun _ _ _ _ _ => qts_nil) (fun _ _ _ _ _ => (q_call (D_ways_of.at hr) (qa_cons (q_var 6) (qa_cons (q_var 7) qa_nil))))) (qg_lst (qgs_cons (qg_name 2 nd) (qgs_cons (qg_name 3 nd) qgs_nil)) (glen_cons (glen_cons glen_nil))))
  (qss_one (q_ret (q_lc2 [("one", 4), ("other", 5)] [5] nd (qi_seq (q_var 2)) (blkOk_by (N := N_choices_of) (sc := (defScope s_choices_of)) (by decide +kernel)) (by decide) (by decide) (by decide) (fun _ _ _ _ _ => (qg_name 4 nd)) (fun _ _ _ _ _ => (qi_seq (q_var 3))) (fun _ _ _ _ _ => (qg_name 5 nd)) (fun _ _ _ _ _ => (q_tup (qa_cons (q_var 4) (qa_cons (q_var 5) qa_nil))))))))
abbrev s_sign_of : Stmt := topS 23
abbrev N_sign_of : List Str := ["part", "chosen"]
abbrev p_sign_of : List Str := ["part", "chosen"]
theorem sc_sign_of : FnScope N_sign_of p_sign_of (defScope s_sign_of) := ⟨rfl, rfl, rfl, by decide +kernel, rfl, by decide +kernel, by decide +kernel⟩
theorem d_sign_of (Z : Glob K mg) (Dx : Df K mg "sign_of" "sign_of" s_sign_of p_sign_of)  : DOk P w K mg base 1 "sign_of" (spD K T F_sign_of) := by
  refine dok_data (body := B_sign_of) Dx sc_sign_of rfl rfl fun f cdv A outer s H E hr => ?_
  have nd := (sc_sign_of).nd
  unfold B_sign_of
  exact (qss_cons (q_ifS (qt_cmp (o_eq hr) (q_ix i_any (q_var 0) q_int) (q_gc Z.c_QUIET)) (qss_one (q_ret (q_callTy f_int Z.z_int boot_int (qa_cons (q_var 1) qa_nil)))) qss_nil)
  (qss_one (q_ret (q_if (qt_val (q_var 1)) q_int q_int))))
abbrev s_signs_of : Stmt := topS 24
abbrev N_signs_of : List Str := ["stand", "choice", "part", "chosen"]
abbrev p_signs_of : List Str := ["stand", "choice"]
theorem sc_signs_of : FnScope N_signs_of p_signs_of (defScope s_signs_of) := ⟨rfl, rfl, rfl, by decide +kernel, rfl, by decide +kernel, by decide +kernel⟩
theorem d_signs_of (Z : Glob K mg) (Dx : Df K mg "signs_of" "signs_of" s_signs_of p_signs_of) (D_sign_of : DOk P w K mg base 1 "sign_of" (spD K T F_sign_of)) : DOk P w K mg base 2 "signs_of" (spD K T F_signs_of) := by
  refine dok_data (body := B_signs_of) Dx sc_signs_of rfl rfl fun f cdv A outer s H E hr => ?_
  have nd := (sc_signs_of).nd
  unfold B_signs_of
  exact (qss_one (q_ret (q_callTy f_tuple Z.z_tuple boot_tuple (qa_cons (q_lc [("part", 2), ("chosen", 3)] nd (qi_zip Z.z_zip (qa_cons (q_ix i_any (q_var 0) q_int) (qa_cons (q_var 1) qa_nil))) (blkOk_by (N := N_signs_of) (sc := (defScope s_signs_of)) (by decide +kernel)) (by decide) (fun _ _ _ _ _ => (qg_tup (qgs_cons (qg_name 2 nd) (qgs_cons (qg_name 3 nd) qgs_nil)) (glen_cons (glen_cons glen_nil)))) (fun _ _ _ _ _ => qts_nil) (fun _ _ _ _ _ => (q_call (D_sign_of.at hr) (qa_cons (q_var 2) (qa_cons (q_var 3) qa_nil))))) qa_nil))))
abbrev s_heard_by : Stmt := topS 25
abbrev N_heard_by : List Str := ["stand"]
abbrev p_heard_by : List Str := ["stand"]
theorem sc_heard_by : FnScope N_heard_by p_heard_by (defScope s_heard_by) := ⟨rfl, rfl, rfl, by decide +kernel, rfl, by decide +kernel, by decide +kernel⟩
theorem d_heard_by (Z : Glob K mg) (Dx : Df K mg "heard_by" "heard_by" s_heard_by p_heard_by)  : DOk P w K mg base 1 "heard_by" (spD K T F_heard_by) := by
  refine dok_data (body := B_heard_by) Dx sc_heard_by rfl rfl fun f cdv A outer s H E hr => ?_
  have nd := (sc_heard_by).nd
  unfold B_heard_by
  exact (qss_one (q_ret (q_tup (qa_cons (q_ix i_any (q_ix i_any (q_ix i_any (q_var 0) q_int) q_int) q_int) (qa_cons (q_ix i_any (q_ix i_any (q_ix i_any (q_var 0) q_int) q_int) q_int) qa_nil)))))
abbrev s_hearing_of : Stmt := topS 26
abbrev N_hearing_of : List Str := ["before", "said", "heard"]
abbrev p_hearing_of : List Str := ["before", "said", "heard"]
theorem sc_hearing_of : FnScope N_hearing_of p_hearing_of (defScope s_hearing_of) := ⟨rfl, rfl, rfl, by decide +kernel, rfl, by decide +kernel, by decide +kernel⟩
theorem d_hearing_of (Z : Glob K mg) (Dx : Df K mg "hearing_of" "hearing_of" s_hearing_of p_hearing_of)  : DOk P w K mg base 1 "hearing_of" (spD K T F_hearing_of) := by
  refine dok_data (body := B_hearing_of) Dx sc_hearing_of rfl rfl fun f cdv A outer s H E hr => ?_
  have nd := (sc_hearing_of).nd
  unfold B_hearing_of
  exact (qss_cons (q_ifS (qt_cmp (o_eq hr) (q_var 2) q_int) (qss_one (q_ret q_str)) qss_nil)
  (qss_cons (q_ifS (qt_cmp (o_ne hr) (q_var 1) q_int) (qss_one (q_ret q_str)) qss_nil)
  (qss_cons (q_ifS (qt_cmp (o_eq hr) (q_var 2) q_int) (qss_one (q_ret q_str)) qss_nil)
  (qss_one (q_ret (q_if (qt_cmp (o_eq hr) (q_var 0) q_str) q_str (q_var 0)))))))
abbrev s_is_whole : Stmt := topS 27
abbrev N_is_whole : List Str := ["part", "said", "heard"]
abbrev p_is_whole : List Str := ["part", "said", "heard"]
theorem sc_is_whole : FnScope N_is_whole p_is_whole (defScope s_is_whole) := ⟨rfl, rfl, rfl, by decide +kernel, rfl, by decide +kernel, by decide +kernel⟩
theorem d_is_whole (Z : Glob K mg) (Dx : Df K mg "is_whole" "is_whole" s_is_whole p_is_whole) (D_hearing_of : DOk P w K mg base 1 "hearing_of" (spD K T F_hearing_of)) : DOk P w K mg base 2 "is_whole" (spD K T F_is_whole) := by
  refine dok_data (body := B_is_whole) Dx sc_is_whole rfl rfl fun f cdv A outer s H E hr => ?_
  have nd := (sc_is_whole).nd
  unfold B_is_whole
  exact (qss_one (q_ret (q_and (q_cmp (o_eq hr) (q_var 2) q_int) (q_one (q_cmp (o_eq hr) (q_call (D_hearing_of.at hr) (qa_cons (q_ix i_any (q_var 0) q_int) (qa_cons (q_var 1) (qa_cons (q_var 2) qa_nil)))) q_str)))))
abbrev s_talker_behind : Stmt := topS 28
abbrev N_talker_behind : List Str := ["habit", "part", "said", "heard", "over", "hearing", "sentence", "wait", "stops", "eager"]
abbrev p_talker_behind : List Str := ["habit", "part", "said", "heard", "over"]
theorem sc_talker_behind : FnScope N_talker_behind p_talker_behind (defScope s_talker_behind) := ⟨rfl, rfl, rfl, by decide +kernel, rfl, by decide +kernel, by decide +kernel⟩
theorem d_talker_behind (Z : Glob K mg) (Dx : Df K mg "talker_behind" "talker_behind" s_talker_behind p_talker_behind) (D_hearing_of : DOk P w K mg base 1 "hearing_of" (spD K T F_hearing_of)) (D_is_whole : DOk P w K mg base 2 "is_whole" (spD K T F_is_whole)) : DOk P w K mg base 3 "talker_behind" (spD K T F_talker_behind) := by
  refine dok_data (body := B_talker_behind) Dx sc_talker_behind rfl rfl fun f cdv A outer s H E hr => ?_
  have nd := (sc_talker_behind).nd
  unfold B_talker_behind
  exact (qss_cons (q_asg (q_var 0) (qg_tup (qgs_cons (qg_name 6 nd) (qgs_cons (qg_name 7 nd) (qgs_cons (qg_name 8 nd) (qgs_cons (qg_name 9 nd) qgs_nil)))) (glen_cons (glen_cons (glen_cons (glen_cons glen_nil))))))
  (qss_cons (q_set 5 nd (q_if (qt_cmp (o_eq hr) (q_var 3) q_int) q_str (q_call (D_hearing_of.at hr) (qa_cons (q_ix i_any (q_var 1) q_int) (qa_cons (q_var 2) (qa_cons (q_var 3) qa_nil))))))
  (qss_cons (q_ifS (qt_cmp (o_ne hr) (q_var 2) q_int) (qss_cons (q_ifS (qt_w (qw_or (qt_cmp (o_eq hr) (q_var 2) q_int) (qw_or1 (qt_w (qw_and (qt_val (q_var 8)) (qw_and1 (qt_cmp (o_ne hr) (q_var 3) q_int))))))) (qss_one (q_ret (q_tup (qa_cons (q_gc Z.c_QUIET) (qa_cons q_int (qa_cons (q_var 5) qa_nil)))))) qss_nil)
  (qss_one (q_ret (q_tup (qa_cons (q_gc Z.c_SPEAKS) (qa_cons (q_if (qt_cmp (o_eq hr) (q_var 2) q_int) q_int (q_bin o_add (q_ix i_any (q_var 1) q_int) q_int)) (qa_cons (q_var 5) qa_nil))))))) qss_nil)
  (qss_cons (q_ifS (qt_cmp (o_eq hr) (q_var 3) q_int) (qss_one (q_ret (q_tup (qa_cons (q_gc Z.c_QUIET) (qa_cons (q_callB (f_min2) Z.z_min boot_min (qa_cons (q_ix i_any (q_var 7) q_int) (qa_cons (q_bin o_add (q_ix i_any (q_var 1) q_int) q_int) qa_nil))) (qa_cons (q_var 5) qa_nil)))))) qss_nil)
  (qss_one (q_ret (q_tup (qa_cons (q_gc Z.c_QUIET) (qa_cons (q_if (qt_w (qw_and (qt_val (q_var 4)) (qw_and1 (qt_val (q_call (D_is_whole.at hr) (qa_cons (q_var 1) (qa_cons (q_var 2) (qa_cons (q_var 3) qa_nil)))))))) (q_ix i_any (q_var 7) q_int) q_int) (qa_cons (q_var 5) qa_nil))))))))))
abbrev s_behind : Stmt := topS 29
abbrev N_behind : List Str := ["plan", "stand", "choice", "number", "said", "heard", "found", "line", "sign"]
abbrev p_behind : List Str := ["plan", "stand", "choice"]
theorem sc_behind : FnScope N_behind p_behind (defScope s_behind) := ⟨rfl, rfl, rfl, by decide +kernel, rfl, by decide +kernel, by decide +kernel⟩
theorem d_behind (Z : Glob K mg) (Dx : Df K mg "behind" "behind" s_behind p_behind) (D_signs_of : DOk P w K mg base 2 "signs_of" (spD K T F_signs_of)) (D_heard_by : DOk P w K mg base 1 "heard_by" (spD K T F_heard_by)) (D_talker_behind : DOk P w K mg base 3 "talker_behind" (spD K T F_talker_behind)) : DOk P w K mg base 4 "behind" (spD K T F_behind) := by
  refine dok_data (body := B_behind) Dx sc_behind rfl rfl fun f cdv A outer s H E hr => ?_
  have nd := (sc_behind).nd
  unfold B_behind
  exact (qss_cons (q_par3O 4 5 6 nd (q_call (D_signs_of.at hr) (qa_cons (q_var 1) (qa_cons (q_var 2) qa_nil))) (q_call (D_heard_by.at hr) (qa_cons (q_var 1) qa_nil)))
  (qss_cons (q_for (qi_range1 Z.z_range (qa_cons q_int qa_nil)) (qg_name 3 nd) (qss_one (q_app 6 (q_call (D_talker_behind.at hr) (qa_cons (q_ix i_any (q_ix i_any (q_var 0) q_int) (q_var 3)) (qa_cons (q_ix i_any (q_ix i_any (q_var 1) q_int) (q_var 3)) (qa_cons (q_ix i_any (q_var 4) (q_var 3)) (qa_cons (q_ix i_any (q_var 5) (q_var 3)) (qa_cons (q_ix i_any (q_var 0) q_int) qa_nil)))))))))
  (qss_one (q_ret (q_tup (qa_cons (q_callTy f_tuple Z.z_tuple boot_tuple (qa_cons (q_take 6) qa_nil)) (qa_cons (q_callTy f_tuple Z.z_tuple boot_tuple (qa_cons (q_lc [("line", 7), ("sign", 8)] nd (qi_zip Z.z_zip (qa_cons (q_ix i_any (q_var 1) q_int) (qa_cons (q_var 4) qa_nil))) (blkOk_by (N := N_behind) (sc := (defScope s_behind)) (by decide +kernel)) (by decide) (fun _ _ _ _ _ => (qg_tup (qgs_cons (qg_name 7 nd) (qgs_cons (qg_name 8 nd) qgs_nil)) (glen_cons (glen_cons glen_nil)))) (fun _ _ _ _ _ => qts_nil) (fun _ _ _ _ _ => (q_bin o_add (q_slice (q_var 7) (qo_some q_int) qo_none) (q_tup (qa_cons (q_var 8) qa_nil))))) qa_nil)) qa_nil)))))))
abbrev s_whole_by : Stmt := topS 30
abbrev N_whole_by : List Str := ["stand", "choice", "said", "heard", "number"]
abbrev p_whole_by : List Str := ["stand", "choice"]
theorem sc_whole_by : FnScope N_whole_by p_whole_by (defScope s_whole_by) := ⟨rfl, rfl, rfl, by decide +kernel, rfl, by decide +kernel, by decide +kernel⟩
theorem d_whole_by (Z : Glob K mg) (Dx : Df K mg "whole_by" "whole_by" s_whole_by p_whole_by) (D_heard_by : DOk P w K mg base 1 "heard_by" (spD K T F_heard_by)) (D_signs_of : DOk P w K mg base 2 "signs_of" (spD K T F_signs_of)) (D_is_whole : DOk P w K mg base 2 "is_whole" (spD K T F_is_whole)) : DOk P w K mg base 3 "whole_by" (spD K T F_whole_by) := by
  refine dok_data (body := B_whole_by) Dx sc_whole_by rfl rfl fun f cdv A outer s H E hr => ?_
  have nd := (sc_whole_by).nd
  unfold B_whole_by
  exact (qss_cons (q_asg (q_tup (qa_cons (q_call (D_signs_of.at hr) (qa_cons (q_var 0) (qa_cons (q_var 1) qa_nil))) (qa_cons (q_call (D_heard_by.at hr) (qa_cons (q_var 0) qa_nil)) qa_nil))) (qg_tup (qgs_cons (qg_name 2 nd) (qgs_cons (qg_name 3 nd) qgs_nil)) (glen_cons (glen_cons glen_nil))))
  (qss_one (q_ret (q_callTy f_tuple Z.z_tuple boot_tuple (qa_cons (q_lc [("number", 4)] nd (qi_seq (q_tup (qa_cons q_int (qa_cons q_int qa_nil)))) (blkOk_by (N := N_whole_by) (sc := (defScope s_whole_by)) (by decide +kernel)) (by decide) (fun _ _ _ _ _ => (qg_name 4 nd)) (fun _ _ _ _ _ => (qts_one (qt_val (q_call (D_is_whole.at hr) (qa_cons (q_ix i_any (q_ix i_any (q_var 0) q_int) (q_var 4)) (qa_cons (q_ix i_any (q_var 2) (q_var 4)) (qa_cons (q_ix i_any (q_var 3) (q_var 4)) qa_nil))))))) (fun _ _ _ _ _ => (q_bin o_isub q_int (q_var 4)))) qa_nil)))))
abbrev s_is_like : Stmt := topS 31
abbrev N_is_like : List Str := ["value", "some", "part"]
abbrev p_is_like : List Str := ["value", "some"]
theorem sc_is_like : FnScope N_is_like p_is_like (defScope s_is_like) := ⟨rfl, rfl, rfl, by decide +kernel, rfl, by decide +kernel, by decide +kernel⟩
theorem d_is_like (Z : Glob K mg) (Dx : Df K mg "is_like" "is_like" s_is_like p_is_like)  : DOk P w K mg base 1 "is_like" (spD K T F_is_like) := by
  refine dok_data (body := B_is_like) Dx sc_is_like rfl rfl fun f cdv A outer s H E hr => ?_
  have nd := (sc_is_like).nd
  unfold B_is_like
  exact (qss_one (q_ret (q_and (q_isi .tup (q_var 0) rfl Z.z_isinstance Z.z_tuple) (q_and (q_callB (f_all) Z.z_all boot_all (qa_cons (q_lc [("part", 2)] nd (qi_seq (q_var 0)) (blkOk_by (N := N_is_like) (sc := (defScope s_is_like)) (by decide +kernel)) (by decide) (fun _ _ _ _ _ => (qg_name 2 nd)) (fun _ _ _ _ _ => qts_nil) (fun _ _ _ _ _ => (q_isi .bool (q_var 2) rfl Z.z_isinstance Z.z_bool))) qa_nil)) (q_one (q_cmp (o_in hr) (q_var 0) (q_var 1)))))))
abbrev s_look_at_choice : Stmt := topS 32
abbrev N_look_at_choice : List Str := ["plan", "stand", "choice"]
abbrev p_look_at_choice : List Str := ["plan", "stand", "choice"]
theorem sc_look_at_choice : FnScope N_look_at_choice p_look_at_choice (defScope s_look_at_choice) := ⟨rfl, rfl, rfl, by decide +kernel, rfl, by decide +kernel, by decide +kernel⟩
theorem d_look_at_choice (Z : Glob K mg) (Dx : Df K mg "look_at_choice" "look_at_choice" s_look_at_choice p_look_at_choice) (D_is_like : DOk P w K mg base 1 "is_like" (spD K T F_is_like)) (D_choices_of : DOk P w K mg base 2 "choices_of" (spD K T F_choices_of)) : DOk P w K mg base 3 "look_at_choice" (spD K T F_look_at_choice) := by
  refine dok_data (body := B_look_at_choice) Dx sc_look_at_choice rfl rfl fun f cdv A outer s H E hr => ?_
  have nd := (sc_look_at_choice).nd
  unfold B_look_at_choice
  exact (qss_one (q_ifS (qt_not (qt_val (q_call (D_is_like.at hr) (qa_cons (q_var 2) (qa_cons (q_call (D_choices_of.at hr) (qa_cons (q_var 0) (qa_cons (q_var 1) qa_nil))) qa_nil))))) (qss_one q_never) qss_nil))
abbrev s_choices_at : Stmt := topS 33
abbrev N_choices_at : List Str := ["plan", "stand"]
abbrev p_choices_at : List Str := ["plan", "stand"]
theorem sc_choices_at : FnScope N_choices_at p_choices_at (defScope s_choices_at) := ⟨rfl, rfl, rfl, by decide +kernel, rfl, by decide +kernel, by decide +kernel⟩
theorem d_choices_at (Z : Glob K mg) (Dx : Df K mg "choices_at" "choices_at" s_choices_at p_choices_at) (D_look_at_plan : DOk P w K mg base 5 "look_at_plan" (spD K T F_look_at_plan)) (D_look_at_stand : DOk P w K mg base 4 "look_at_stand" (spD K T F_look_at_stand)) (D_choices_of : DOk P w K mg base 2 "choices_of" (spD K T F_choices_of)) : DOk P w K mg base 6 "choices_at" (spD K T F_choices_at) := by
  refine dok_data (body := B_choices_at) Dx sc_choices_at rfl rfl fun f cdv A outer s H E hr => ?_
  have nd := (sc_choices_at).nd
  unfold B_choices_at
  exact (qss_cons (q_drop (q_call (D_look_at_plan.at hr) (qa_cons (q_var 0) qa_nil)))
  (qss_cons (q_drop (q_call (D_look_at_stand.at hr) (qa_cons (q_var 0) (qa_cons (q_var 1) qa_nil))))
  (qss_one (q_ret (q_call (D_choices_of.at hr) (qa_cons (q_var 0) (qa_cons (q_var 1) qa_nil)))))))
abbrev s_said : Stmt := topS 34
abbrev N_said : List Str := ["plan", "stand", "choice"]
abbrev p_said : List Str := ["plan", "stand", "choice"]
theorem sc_said : FnScope N_said p_said (defScope s_said) := ⟨rfl, rfl, rfl, by decide +kernel, rfl, by decide +kernel, by decide +kernel⟩
theorem d_said (Z : Glob K mg) (Dx : Df K mg "said" "said" s_said p_said) (D_look_at_plan : DOk P w K mg base 5 "look_at_plan" (spD K T F_look_at_plan)) (D_look_at_stand : DOk P w K mg base 4 "look_at_stand" (spD K T F_look_at_stand)) (D_look_at_choice : DOk P w K mg base 3 "look_at_choice" (spD K T F_look_at_choice)) (D_signs_of : DOk P w K mg base 2 "signs_of" (spD K T F_signs_of)) : DOk P w K mg base 6 "said" (spD K T F_said) := by
  refine dok_data (body := B_said) Dx sc_said rfl rfl fun f cdv A outer s H E hr => ?_
  have nd := (sc_said).nd
  unfold B_said
  exact (qss_cons (q_drop (q_call (D_look_at_plan.at hr) (qa_cons (q_var 0) qa_nil)))
  (qss_cons (q_drop (q_call (D_look_at_stand.at hr) (qa_cons (q_var 0) (qa_cons (q_var 1) qa_nil))))
  (qss_cons (q_drop (q_call (D_look_at_choice.at hr) (qa_cons (q_var 0) (qa_cons (q_var 1) (qa_cons (q_var 2) qa_nil)))))
  (qss_one (q_ret (q_call (D_signs_of.at hr) (qa_cons (q_var 1) (qa_cons (q_var 2) qa_nil))))))))
abbrev s_heard : Stmt := topS 35
abbrev N_heard : List Str := ["plan", "stand"]
abbrev p_heard : List Str := ["plan", "stand"]
theorem sc_heard : FnScope N_heard p_heard (defScope s_heard) := ⟨rfl, rfl, rfl, by decide +kernel, rfl, by decide +kernel, by decide +kernel⟩
theorem d_heard (Z : Glob K mg) (Dx : Df K mg "heard" "heard" s_heard p_heard) (D_look_at_plan : DOk P w K mg base 5 "look_at_plan" (spD K T F_look_at_plan)) (D_look_at_stand : DOk P w K mg base 4 "look_at_stand" (spD K T F_look_at_stand)) (D_heard_by : DOk P w K mg base 1 "heard_by" (spD K T F_heard_by)) : DOk P w K mg base 6 "heard" (spD K T F_heard) := by
  refine dok_data (body := B_heard) Dx sc_heard rfl rfl fun f cdv A outer s H E hr => ?_
  have nd := (sc_heard).nd
  unfold B_heard
  exact (qss_cons (q_drop (q_call (D_look_at_plan.at hr) (qa_cons (q_var 0) qa_nil)))
  (qss_cons (q_drop (q_call (D_look_at_stand.at hr) (qa_cons (q_var 0) (qa_cons (q_var 1) qa_nil))))
  (qss_one (q_ret (q_call (D_heard_by.at hr) (qa_cons (q_var 1) qa_nil))))))
abbrev s_after : Stmt := topS 36
abbrev N_after : List Str := ["plan", "stand", "choice"]
abbrev p_after : List Str := ["plan", "stand", "choice"]
theorem sc_after : FnScope N_after p_after (defScope s_after) := ⟨rfl, rfl, rfl, by decide +kernel, rfl, by decide +kernel, by decide +kernel⟩
theorem d_after (Z : Glob K mg) (Dx : Df K mg "after" "after" s_after p_after) (D_look_at_plan : DOk P w K mg base 5 "look_at_plan" (spD K T F_look_at_plan)) (D_look_at_stand : DOk P w K mg base 4 "look_at_stand" (spD K T F_look_at_stand)) (D_look_at_choice : DOk P w K mg base 3 "look_at_choice" (spD K T F_look_at_choice)) (D_behind : DOk P w K mg base 4 "behind" (spD K T F_behind)) : DOk P w K mg base 6 "after" (spD K T F_after) := by
  refine dok_data (body := B_after) Dx sc_after rfl rfl fun f cdv A outer s H E hr => ?_
  have nd := (sc_after).nd
  unfold B_after
  exact (qss_cons (q_drop (q_call (D_look_at_plan.at hr) (qa_cons (q_var 0) qa_nil)))
  (qss_cons (q_drop (q_call (D_look_at_stand.at hr) (qa_cons (q_var 0) (qa_cons (q_var 1) qa_nil))))
  (qss_cons (q_drop (q_call (D_look_at_choice.at hr) (qa_cons (q_var 0) (qa_cons (q_var 1) (qa_cons (q_var 2) qa_nil)))))
  (qss_one (q_ret (q_call (D_behind.at hr) (qa_cons (q_var 0) (qa_cons (q_var 1) (qa_cons (q_var 2) qa_nil)))))))))
abbrev s_whole : Stmt := topS 37
abbrev N_whole : List Str := ["plan", "stand", "choice"]
abbrev p_whole : List Str := ["plan", "stand", "choice"]
theorem sc_whole : FnScope N_whole p_whole (defScope s_whole) := ⟨rfl, rfl, rfl, by decide +kernel, rfl, by decide +kernel, by decide +kernel⟩
theorem d_whole (Z : Glob K mg) (Dx : Df K mg "whole" "whole" s_whole p_whole) (D_look_at_plan : DOk P w K mg base 5 "look_at_plan" (spD K T F_look_at_plan)) (D_look_at_stand : DOk P w K mg base 4 "look_at_stand" (spD K T F_look_at_stand)) (D_look_at_choice : DOk P w K mg base 3 "look_at_choice" (spD K T F_look_at_choice)) (D_whole_by : DOk P w K mg base 3 "whole_by" (spD K T F_whole_by)) : DOk P w K mg base 6 "whole" (spD K T F_whole) := by
  refine dok_data (body := B_whole) Dx sc_whole rfl rfl fun f cdv A outer s H E hr => ?_
  have nd := (sc_whole).nd
  unfold B_whole
  exact (qss_cons (q_drop (q_call (D_look_at_plan.at hr) (qa_cons (q_var 0) qa_nil)))
  (qss_cons (q_drop (q_call (D_look_at_stand.at hr) (qa_cons (q_var 0) (qa_cons (q_var 1) qa_nil))))
  (qss_cons (q_drop (q_call (D_look_at_choice.at hr) (qa_cons (q_var 0) (qa_cons (q_var 1) (qa_cons (q_var 2) qa_nil)))))
  (qss_one (q_ret (q_call (D_whole_by.at hr) (qa_cons (q_var 1) (qa_cons (q_var 2) qa_nil))))))))
abbrev s__law_spring : Stmt := topS 39
abbrev N__law_spring : List Str := ["script", "at", "cell", "mixed"]
abbrev p__law_spring : List Str := ["script", "at"]
theorem sc__law_spring : FnScope N__law_spring p__law_spring (defScope s__law_spring) := ⟨rfl, rfl, rfl, by decide +kernel, rfl, by decide +kernel, by decide +kernel⟩
theorem d__law_spring (Z : Glob K mg) (Dx : Df K mg "_law_spring" "_law_spring" s__law_spring p__law_spring)  : DOk P w K mg base 1 "_law_spring" (spO K T F__law_spring) := by
  refine dok_new (body := B__law_spring) Dx sc__law_spring rfl rfl fun f cdv A outer s H E hr => ?_
  have nd := (sc__law_spring).nd
  unfold B__law_spring
  exact (qss_cons (q_set 2 nd q_int)
  (qss_cons (q_ifS (qt_cmp o_lt (q_var 1) (q_callB f_len Z.z_len PySem.boot_len (qa_cons (q_var 0) qa_nil))) (qss_one (q_set 2 nd (q_callB f_abs Z.z_abs boot_abs (qa_cons (q_ix i_any (q_var 0) (q_var 1)) qa_nil)))) qss_nil)
  (qss_cons (q_set 3 nd (q_bin o_imod (q_callTy f_int Z.z_int boot_int (qa_cons (q_bin o_add (q_bin o_add (q_bin o_mul (q_var 2) q_int) (q_bin o_mul q_int (q_var 1))) q_int) qa_nil)) q_int))
  (qss_one (q_retO (qa_cons (q_if (qt_cmp o_ge (q_var 2) (q_bin o_ipow q_int q_int)) (q_var 2) q_int) (qa_cons (q_var 3) qa_nil)))))))
abbrev s__law_pick : Stmt := topS 40
abbrev N__law_pick : List Str := ["spring", "many", "digit"]
abbrev p__law_pick : List Str := ["spring", "many"]
theorem sc__law_pick : FnScope N__law_pick p__law_pick (defScope s__law_pick) := ⟨rfl, rfl, rfl, by decide +kernel, rfl, by decide +kernel, by decide +kernel⟩
theorem d__law_pick (Z : Glob K mg) (Dx : Df K mg "_law_pick" "_law_pick" s__law_pick p__law_pick)  : DOk P w K mg base 1 "_law_pick" (spB K T F__law_pick) := by
  refine dok_borrow (body := B__law_pick) Dx sc__law_pick rfl rfl fun f cdv A outer s H E hr => ?_
  have nd := (sc__law_pick).nd
  unfold B__law_pick
  exact (qss_cons (q_ifS (qt_cmp o_gt (q_ixO 0 q_int) q_int) (qss_cons (q_set 2 nd (q_bin o_imod (q_callTy f_int Z.z_int boot_int (qa_cons (q_ixO 0 q_int) qa_nil)) (q_var 1)))
  (qss_cons (q_setO 0 (q_bin o_idiv (q_ixO 0 q_int) (q_var 1)) q_int)
  (qss_one (q_ret (q_var 2))))) qss_nil)
  (qss_cons (q_setO 0 (q_bin o_imod (q_callTy f_int Z.z_int boot_int (qa_cons (q_bin o_add (q_bin o_mul (q_ixO 0 q_int) q_int) q_int) qa_nil)) q_int) q_int)
  (qss_one (q_ret (q_bin o_imod (q_callTy f_int Z.z_int boot_int (qa_cons (q_bin o_idiv (q_ixO 0 q_int) q_int) qa_nil)) (q_var 1))))))
abbrev s__law_kind : Stmt := topS 41
abbrev N__law_kind : List Str := ["value"]
abbrev p__law_kind : List Str := ["value"]
theorem sc__law_kind : FnScope N__law_kind p__law_kind (defScope s__law_kind) := ⟨rfl, rfl, rfl, by decide +kernel, rfl, by decide +kernel, by decide +kernel⟩
theorem d__law_kind (Z : Glob K mg) (Dx : Df K mg "_law_kind" "_law_kind" s__law_kind p__law_kind)  : DOk P w K mg base 1 "_law_kind" (spD K T F__law_kind) := by
  refine dok_data (body := B__law_kind) Dx sc__law_kind rfl rfl fun f cdv A outer s H E hr => ?_
  have nd := (sc__law_kind).nd
  unfold B__law_kind
  exact (qss_cons (q_ifS (qt_w (qw_or (qt_cmp o_isn (q_var 0) q_non) (qw_or1 (qt_val (q_isi .bool (q_var 0) rfl Z.z_isinstance Z.z_bool))))) (qss_one (q_ret (q_if (qt_cmp o_isn (q_var 0) q_non) q_int q_int))) qss_nil)
  (qss_cons (q_ifS (qt_val (q_isi2 .lst .tup (q_var 0) rfl rfl Z.z_isinstance Z.z_list Z.z_tuple)) (qss_one (q_ret (q_if (qt_val (q_isi .lst (q_var 0) rfl Z.z_isinstance Z.z_list)) q_int q_int))) qss_nil)
  (qss_one (q_ret (q_if (qt_val (q_isi .int (q_var 0) rfl Z.z_isinstance Z.z_int)) q_int (q_if (qt_val (q_isi .str (q_var 0) rfl Z.z_isinstance Z.z_str)) q_int q_int))))))
abbrev s__law_twins : Stmt := topS 42
abbrev N__law_twins : List Str := ["one", "other", "a", "b"]
abbrev p__law_twins : List Str := ["one", "other"]
theorem sc__law_twins : FnScope N__law_twins p__law_twins (defScope s__law_twins) := ⟨rfl, rfl, rfl, by decide +kernel, rfl, by decide +kernel, by decide +kernel⟩
theorem d__law_twins (Z : Glob K mg) (Dx : Df K mg "_law_twins" "_law_twins" s__law_twins p__law_twins) (D__law_kind : DOk P w K mg base 1 "_law_kind" (spD K T F__law_kind)) : ∀ n : Nat, DOk P w K mg base (1 + n) "_law_twins" (spD K T (F__law_twins n))
  | 0 => dok_noneD Dx
  | n + 1 => dok_data (body := B__law_twins (F__law_twins n)) Dx sc__law_twins rfl rfl fun f cdv A outer s H E hr => by
    have ih := d__law_twins Z Dx D__law_kind n
    have nd := (sc__law_twins).nd
    unfold B__law_twins
    exact (qss_cons (q_ifS (qt_cmp (o_ne hr) (q_call (D__law_kind.at hr (Nat.le_add_right_of_le (by decide))) (qa_cons (q_var 0) qa_nil)) (q_call (D__law_kind.at hr (Nat.le_add_right_of_le (by decide))) (qa_cons (q_var 1) qa_nil))) (qss_one (q_ret q_bl)) qss_nil)
  (qss_cons (q_ifS (qt_cmp (o_in hr) (q_call (D__law_kind.at hr (Nat.le_add_right_of_le (by decide))) (qa_cons (q_var 0) qa_nil)) (q_lst (qa_cons q_int (qa_cons q_int qa_nil)))) (qss_one (q_ret (q_and (q_cmp (o_eq hr) (q_callB f_len Z.z_len PySem.boot_len (qa_cons (q_var 0) qa_nil)) (q_callB f_len Z.z_len PySem.boot_len (qa_cons (q_var 1) qa_nil))) (q_one (q_cmp (o_eq hr) (q_lc [("a", 2), ("b", 3)] nd (qi_zip Z.z_zip (qa_cons (q_var 0) (qa_cons (q_var 1) qa_nil))) (blkOk_by (N := N__law_twins) (sc := (defScope s__law_twins)) (by decide +kernel)) (by decide) (fun _ _ _ _ _ => (qg_tup (qgs_cons (qg_name 2 nd) (qgs_cons (qg_name 3 nd) qgs_nil)) (glen_cons (glen_cons glen_nil)))) (fun _ _ _ _ _ => (qts_one (qt_not (qt_val (q_call (ih.at hr (Nat.le_refl _)) (qa_cons (q_var 2) (qa_cons (q_var 3) qa_nil))))))) (fun _ _ _ _ _ => q_int)) (q_lst qa_nil)))))) qss_nil)
  (qss_one (q_ret (q_cmp (o_eq hr) (q_var 0) (q_var 1))))))
abbrev s__law_habit : Stmt := topS 43
abbrev N__law_habit : List Str := ["spring", "most", "low", "sentence", "pause"]
abbrev p__law_habit : List Str := ["spring", "most"]
theorem sc__law_habit : FnScope N__law_habit p__law_habit (defScope s__law_habit) := ⟨rfl, rfl, rfl, by decide +kernel, rfl, by decide +kernel, by decide +kernel⟩
theorem d__law_habit (Z : Glob K mg) (Dx : Df K mg "_law_habit" "_law_habit" s__law_habit p__law_habit) (D__law_pick : DOk P w K mg base 1 "_law_pick" (spB K T F__law_pick)) : DOk P w K mg base 2 "_law_habit" (spB K T F__law_habit) := by
  refine dok_borrow (body := B__law_habit) Dx sc__law_habit rfl rfl fun f cdv A outer s H E hr => ?_
  have nd := (sc__law_habit).nd
  unfold B__law_habit
  exact (qss_cons (q_set 2 nd (q_bin o_add q_int (q_bor 0 (D__law_pick.at hr) (qa_cons q_int qa_nil))))
  (qss_cons (q_set 3 nd (q_tup (qa_cons (q_var 2) (qa_cons (q_callB (f_min2) Z.z_min boot_min (qa_cons q_int (qa_cons (q_bin o_add (q_var 2) (q_ix i_any (q_lst (qa_cons q_int (qa_cons q_int (qa_cons q_int qa_nil)))) (q_bor 0 (D__law_pick.at hr) (qa_cons q_int qa_nil)))) qa_nil))) qa_nil))))
  (qss_cons (q_set 2 nd (q_bin o_add q_int (q_bor 0 (D__law_pick.at hr) (qa_cons (q_var 1) qa_nil))))
  (qss_cons (q_set 4 nd (q_tup (qa_cons (q_var 2) (qa_cons (q_callB (f_min2) Z.z_min boot_min (qa_cons q_int (qa_cons (q_bin o_add (q_var 2) (q_ix i_any (q_lst (qa_cons q_int (qa_cons q_int (qa_cons q_int (qa_cons q_int qa_nil))))) (q_bor 0 (D__law_pick.at hr) (qa_cons q_int qa_nil)))) qa_nil))) qa_nil))))
  (qss_one (q_ret (q_tup (qa_cons (q_var 3) (qa_cons (q_var 4) (qa_cons (q_cmp o_gt (q_bor 0 (D__law_pick.at hr) (qa_cons q_int qa_nil)) q_int) (qa_cons (q_cmp o_gt (q_bor 0 (D__law_pick.at hr) (qa_cons q_int qa_nil)) q_int) qa_nil)))))))))))
abbrev s__law_size : Stmt := topS 44
abbrev N__law_size : List Str := ["plan", "size", "habit", "delay"]
abbrev p__law_size : List Str := ["plan"]
theorem sc__law_size : FnScope N__law_size p__law_size (defScope s__law_size) := ⟨rfl, rfl, rfl, by decide +kernel, rfl, by decide +kernel, by decide +kernel⟩
theorem d__law_size (Z : Glob K mg) (Dx : Df K mg "_law_size" "_law_size" s__law_size p__law_size)  : DOk P w K mg base 1 "_law_size" (spD K T F__law_size) := by
  refine dok_data (body := B__law_size) Dx sc__law_size rfl rfl fun f cdv A outer s H E hr => ?_
  have nd := (sc__law_size).nd
  unfold B__law_size
  exact (qss_cons (q_set 1 nd q_int)
  (qss_cons (q_for (qi_zip Z.z_zip (qa_cons (q_ix i_any (q_var 0) q_int) (qa_cons (q_ix i_any (q_var 0) q_int) qa_nil))) (qg_tup (qgs_cons (qg_name 2 nd) (qgs_cons (qg_name 3 nd) qgs_nil)) (glen_cons (glen_cons glen_nil))) (qss_one (q_set 1 nd (q_bin o_mul (q_bin o_mul (q_bin o_mul (q_var 1) q_int) (q_bin o_add (q_bin o_add (q_ix i_any (q_ix i_any (q_var 2) q_int) q_int) (q_ix i_any (q_ix i_any (q_var 2) q_int) q_int)) q_int)) (q_bin o_add q_int (q_bin o_mul q_int (q_var 3)))))))
  (qss_one (q_ret (q_var 1)))))
abbrev s__law_plan : Stmt := topS 45
abbrev N__law_plan : List Str := ["spring", "bound", "habits", "delays", "plan"]
abbrev p__law_plan : List Str := ["spring", "bound"]
theorem sc__law_plan : FnScope N__law_plan p__law_plan (defScope s__law_plan) := ⟨rfl, rfl, rfl, by decide +kernel, rfl, by decide +kernel, by decide +kernel⟩
theorem d__law_plan (Z : Glob K mg) (Dx : Df K mg "_law_plan" "_law_plan" s__law_plan p__law_plan) (D__law_habit : DOk P w K mg base 2 "_law_habit" (spB K T F__law_habit)) (D__law_pick : DOk P w K mg base 1 "_law_pick" (spB K T F__law_pick)) (D__law_size : DOk P w K mg base 1 "_law_size" (spD K T F__law_size)) : DOk P w K mg base 3 "_law_plan" (spB K T F__law_plan) := by
  refine dok_borrow (body := B__law_plan) Dx sc__law_plan rfl rfl fun f cdv A outer s H E hr => ?_
  have nd := (sc__law_plan).nd
  unfold B__law_plan
  exact (qss_cons (q_set 2 nd (q_tup (qa_cons (q_bor 0 (D__law_habit.at hr) (qa_cons q_int qa_nil)) (qa_cons (q_bor 0 (D__law_habit.at hr) (qa_cons q_int qa_nil)) qa_nil))))
  (qss_cons (q_set 3 nd (q_tup (qa_cons (q_bin o_add q_int (q_bor 0 (D__law_pick.at hr) (qa_cons q_int qa_nil))) (qa_cons (q_bin o_add q_int (q_bor 0 (D__law_pick.at hr) (qa_cons q_int qa_nil))) qa_nil))))
  (qss_cons (q_set 4 nd (q_tup (qa_cons (q_var 2) (qa_cons (q_var 3) (qa_cons (q_cmp (o_eq hr) (q_bor 0 (D__law_pick.at hr) (qa_cons q_int qa_nil)) q_int) qa_nil)))))
  (qss_cons (q_ifS (qt_cmp o_gt (q_call (D__law_size.at hr) (qa_cons (q_var 4) qa_nil)) (q_var 1)) (qss_one (q_set 4 nd (q_tup (qa_cons (q_var 2) (qa_cons (q_tup (qa_cons q_int (qa_cons q_int qa_nil))) (qa_cons (q_ix i_any (q_var 4) q_int) qa_nil)))))) qss_nil)
  (qss_cons (q_ifS (qt_cmp o_gt (q_call (D__law_size.at hr) (qa_cons (q_var 4) qa_nil)) (q_var 1)) (qss_one (q_set 4 nd (q_tup (qa_cons (q_tup (qa_cons (q_ix i_any (q_var 2) q_int) (qa_cons (q_tup (qa_cons (q_tup (qa_cons q_int (qa_cons q_int qa_nil))) (qa_cons (q_tup (qa_cons q_int (qa_cons q_int qa_nil))) (qa_cons (q_ix i_any (q_ix i_any (q_var 2) q_int) q_int) (qa_cons q_bl qa_nil))))) qa_nil))) (qa_cons (q_tup (qa_cons q_int (qa_cons q_int qa_nil))) (qa_cons (q_ix i_any (q_var 4) q_int) qa_nil)))))) qss_nil)
  (qss_cons (q_ifS (qt_cmp o_gt (q_call (D__law_size.at hr) (qa_cons (q_var 4) qa_nil)) (q_var 1)) (qss_one (q_set 4 nd (q_tup (qa_cons (q_tup (qa_cons (q_tup (qa_cons (q_tup (qa_cons q_int (qa_cons q_int qa_nil))) (qa_cons (q_tup (qa_cons q_int (qa_cons q_int qa_nil))) (qa_cons q_bl (qa_cons q_bl qa_nil))))) (qa_cons (q_ix i_any (q_ix i_any (q_var 4) q_int) q_int) qa_nil))) (qa_cons (q_tup (qa_cons q_int (qa_cons q_int qa_nil))) (qa_cons (q_ix i_any (q_var 4) q_int) qa_nil)))))) qss_nil)
  (qss_one (q_ret (q_var 4)))))))))
abbrev s__law_options : Stmt := topS 47
abbrev N__law_options : List Str := ["habit", "part", "length", "stay"]
abbrev p__law_options : List Str := ["habit", "part"]
theorem sc__law_options : FnScope N__law_options p__law_options (defScope s__law_options) := ⟨rfl, rfl, rfl, by decide +kernel, rfl, by decide +kernel, by decide +kernel⟩
theorem d__law_options (Z : Glob K mg) (Dx : Df K mg "_law_options" "_law_options" s__law_options p__law_options)  : DOk P w K mg base 1 "_law_options" (spD K T F__law_options) := by
  refine dok_data (body := B__law_options) Dx sc__law_options rfl rfl fun f cdv A outer s H E hr => ?_
  have nd := (sc__law_options).nd
  unfold B__law_options
  exact (qss_cons (q_ifS (qt_cmp (o_eq hr) (q_ix i_any (q_var 1) q_int) q_str) (qss_cons (q_set 3 nd (q_not (q_and (q_ix i_any (q_var 0) q_int) (q_one (q_cmp (o_eq hr) (q_ix i_any (q_var 1) q_int) (q_ix i_any (q_ix i_any (q_var 0) q_int) q_int))))))
  (qss_one (q_ret (q_bin o_add (q_bin o_mul (q_lst (qa_cons q_bl qa_nil)) (q_callTy f_int Z.z_int boot_int (qa_cons (q_var 3) qa_nil))) (q_bin o_mul (q_lst (qa_cons q_bl qa_nil)) (q_callTy f_int Z.z_int boot_int (qa_cons (q_cmp o_ge (q_ix i_any (q_var 1) q_int) (q_ix i_any (q_ix i_any (q_var 0) q_int) q_int)) qa_nil))))))) qss_nil)
  (qss_cons (q_set 2 nd (q_bin o_add (q_ix i_any (q_var 1) q_int) q_int))
  (qss_one (q_ret (q_bin o_add (q_bin o_mul (q_lst (qa_cons q_bl qa_nil)) (q_callTy f_int Z.z_int boot_int (qa_cons (q_cmp (o_ne hr) (q_var 2) (q_ix i_any (q_ix i_any (q_var 0) q_int) q_int)) qa_nil))) (q_bin o_mul (q_lst (qa_cons q_bl qa_nil)) (q_callTy f_int Z.z_int boot_int (qa_cons (q_cmp o_le (q_ix i_any (q_ix i_any (q_var 0) q_int) q_int) (q_var 2)) qa_nil))))))))
abbrev s__law_choices : Stmt := topS 48
abbrev N__law_choices : List Str := ["plan", "stand", "found", "one", "other"]
abbrev p__law_choices : List Str := ["plan", "stand"]
theorem sc__law_choices : FnScope N__law_choices p__law_choices (defScope s__law_choices) := ⟨rfl, rfl, rfl, by decide +kernel, rfl, by decide +kernel, by decide +kernel⟩
theorem d__law_choices (Z : Glob K mg) (Dx : Df K mg "_law_choices" "_law_choices" s__law_choices p__law_choices) (D__law_options : DOk P w K mg base 1 "_law_options" (spD K T F__law_options)) : DOk P w K mg base 2 "_law_choices" (spD K T F__law_choices) := by
  refine dok_data (body := B__law_choices) Dx sc__law_choices rfl rfl fun f cdv A outer s H E hr => ?_
  have nd := (sc__law_choices).nd
  unfold B__law_choices
  exact (qss_cons (q_set 2 nd (q_lst qa_nil))
  (qss_cons (q_for (qi_seq (q_call (D__law_options.at hr) (qa_cons (q_ix i_any (q_ix i_any (q_var 0) q_int) q_int) (qa_cons (q_ix i_any (q_ix i_any (q_var 1) q_int) q_int) qa_nil)))) (qg_name 3 nd) (qss_one (q_set 2 nd (q_bin o_add (q_var 2) (q_lc [("other", 4)] nd (qi_seq (q_call (D__law_options.at hr) (qa_cons (q_ix i_any (q_ix i_any (q_var 0) q_int) q_int) (qa_cons (q_ix i_any (q_ix i_any (q_var 1) q_int) q_int) qa_nil)))) (blkOk_by (N := N__law_choices) (sc := (defScope s__law_choices)) (by decide +kernel)) (by decide) (fun _ _ _ _ _ => (qg_name 4 nd)) (fun _ _ _ _ _ => qts_nil) (fun _ _ _ _ _ => (q_tup (qa_cons (q_var 3) (qa_cons (q_var 4) qa_nil)))))))))
  (qss_one (q_ret (q_var 2)))))
abbrev s__law_voice : Stmt := topS 49
abbrev N__law_voice : List Str := ["part", "chosen"]
abbrev p__law_voice : List Str := ["part", "chosen"]
theorem sc__law_voice : FnScope N__law_voice p__law_voice (defScope s__law_voice) := ⟨rfl, rfl, rfl, by decide +kernel, rfl, by decide +kernel, by decide +kernel⟩
theorem d__law_voice (Z : Glob K mg) (Dx : Df K mg "_law_voice" "_law_voice" s__law_voice p__law_voice)  : DOk P w K mg base 1 "_law_voice" (spD K T F__law_voice) := by
  refine dok_data (body := B__law_voice) Dx sc__law_voice rfl rfl fun f cdv A outer s H E hr => ?_
  have nd := (sc__law_voice).nd
  unfold B__law_voice
  exact (qss_one (q_ret (q_ix i_any (q_ix i_any (q_lst (qa_cons (q_lst (qa_cons q_int (qa_cons q_int qa_nil))) (qa_cons (q_lst (qa_cons q_int (qa_cons q_int qa_nil))) qa_nil))) (q_callTy f_int Z.z_int boot_int (qa_cons (q_cmp (o_eq hr) (q_ix i_any (q_var 0) q_int) q_str) qa_nil))) (q_callTy f_int Z.z_int boot_int (qa_cons (q_var 1) qa_nil)))))
abbrev s__law_led : Stmt := topS 50
abbrev N__law_led : List Str := ["habit", "part", "voice", "ear", "over", "done", "got", "mode", "count"]
abbrev p__law_led : List Str := ["habit", "part", "voice", "ear", "over"]
theorem sc__law_led : FnScope N__law_led p__law_led (defScope s__law_led) := ⟨rfl, rfl, rfl, by decide +kernel, rfl, by decide +kernel, by decide +kernel⟩
theorem d__law_led (Z : Glob K mg) (Dx : Df K mg "_law_led" "_law_led" s__law_led p__law_led)  : DOk P w K mg base 1 "_law_led" (spD K T F__law_led) := by
  refine dok_data (body := B__law_led) Dx sc__law_led rfl rfl fun f cdv A outer s H E hr => ?_
  have nd := (sc__law_led).nd
  unfold B__law_led
  exact (qss_cons (q_asg (q_var 1) (qg_tup (qgs_cons (qg_name 7 nd) (qgs_cons (qg_name 8 nd) (qgs_cons (qg_name 6 nd) qgs_nil))) (glen_cons (glen_cons (glen_cons glen_nil)))))
  (qss_cons (q_ifS (qt_cmp (o_eq hr) (q_var 3) q_int) (qss_one (q_set 6 nd q_str)) (qss_one (q_ifS (qt_w (qw_or (qt_cmp o_gt (q_var 2) q_int) (qw_or1 (qt_w (qw_and (qt_cmp o_gt (q_var 3) q_int) (qw_and1 (qt_cmp (o_eq hr) (q_var 6) q_str))))))) (qss_one (q_set 6 nd q_str)) (qss_one (q_ifS (qt_cmp (o_eq hr) (q_var 3) q_int) (qss_one (q_set 6 nd q_str)) qss_nil)))))
  (qss_cons (q_set 5 nd (q_and (q_cmp (o_eq hr) (q_var 3) q_int) (q_one (q_cmp (o_eq hr) (q_var 6) q_str))))
  (qss_cons (q_set 6 nd (q_if (qt_cmp (o_eq hr) (q_var 3) q_int) q_str (q_var 6)))
  (qss_cons (q_ifS (qt_w (qw_or (qt_cmp (o_eq hr) (q_var 2) q_int) (qw_or1 (qt_w (qw_and (qt_cmp o_gt (q_var 2) q_int) (qw_and (qt_val (q_ix i_any (q_var 0) q_int)) (qw_and1 (qt_cmp o_gt (q_var 3) q_int)))))))) (qss_one (q_ret (q_tup (qa_cons (q_tup (qa_cons q_str (qa_cons q_int (qa_cons (q_var 6) qa_nil)))) (qa_cons (q_var 5) qa_nil))))) qss_nil)
  (qss_cons (q_ifS (qt_cmp o_gt (q_var 2) q_int) (qss_one (q_ret (q_tup (qa_cons (q_tup (qa_cons q_str (qa_cons (q_if (qt_cmp (o_eq hr) (q_var 7) q_str) q_int (q_bin o_add (q_var 8) q_int)) (qa_cons (q_var 6) qa_nil)))) (qa_cons (q_var 5) qa_nil))))) qss_nil)
  (qss_cons (q_ifS (qt_cmp (o_eq hr) (q_var 3) q_int) (qss_one (q_ret (q_tup (qa_cons (q_tup (qa_cons q_str (qa_cons (q_callB (f_min2) Z.z_min boot_min (qa_cons (q_bin o_add (q_var 8) q_int) (qa_cons (q_ix i_any (q_ix i_any (q_var 0) q_int) q_int) qa_nil))) (qa_cons (q_var 6) qa_nil)))) (qa_cons (q_var 5) qa_nil))))) qss_nil)
  (qss_one (q_ret (q_tup (qa_cons (q_tup (qa_cons q_str (qa_cons (q_bin o_mul (q_ix i_any (q_ix i_any (q_var 0) q_int) q_int) (q_callTy f_int Z.z_int boot_int (qa_cons (q_and (q_var 5) (q_one (q_var 4))) qa_nil))) (qa_cons (q_var 6) qa_nil)))) (qa_cons (q_var 5) qa_nil))))))))))))
abbrev s__law_tick : Stmt := topS 51
abbrev N__law_tick : List Str := ["plan", "stand", "choice", "voices", "lines", "one", "got", "other", "given", "line", "back"]
abbrev p__law_tick : List Str := ["plan", "stand", "choice"]
theorem sc__law_tick : FnScope N__law_tick p__law_tick (defScope s__law_tick) := ⟨rfl, rfl, rfl, by decide +kernel, rfl, by decide +kernel, by decide +kernel⟩
theorem d__law_tick (Z : Glob K mg) (Dx : Df K mg "_law_tick" "_law_tick" s__law_tick p__law_tick) (D__law_voice : DOk P w K mg base 1 "_law_voice" (spD K T F__law_voice)) (D__law_led : DOk P w K mg base 1 "_law_led" (spD K T F__law_led)) : DOk P w K mg base 2 "_law_tick" (spD K T F__law_tick) := by
  refine dok_data (body := B__law_tick) Dx sc__law_tick rfl rfl fun f cdv A outer s H E hr => ?_
  have nd := (sc__law_tick).nd
  unfold B__law_tick
  exact (qss_cons (q_asg (q_var 1) (qg_tup (qgs_cons (qg_tup (qgs_cons (qg_name 5 nd) (qgs_cons (qg_name 7 nd) qgs_nil)) (glen_cons (glen_cons glen_nil))) (qgs_cons (qg_tup (qgs_cons (qg_name 9 nd) (qgs_cons (qg_name 10 nd) qgs_nil)) (glen_cons (glen_cons glen_nil))) qgs_nil)) (glen_cons (glen_cons glen_nil))))
  (qss_cons (q_set 3 nd (q_tup (qa_cons (q_call (D__law_voice.at hr) (qa_cons (q_var 5) (qa_cons (q_ix i_any (q_var 2) q_int) qa_nil))) (qa_cons (q_call (D__law_voice.at hr) (qa_cons (q_var 7) (qa_cons (q_ix i_any (q_var 2) q_int) qa_nil))) qa_nil))))
  (qss_cons (q_asg (q_call (D__law_led.at hr) (qa_cons (q_ix i_any (q_ix i_any (q_var 0) q_int) q_int) (qa_cons (q_var 5) (qa_cons (q_ix i_any (q_var 3) q_int) (qa_cons (q_ix i_any (q_var 10) q_int) (qa_cons (q_ix i_any (q_var 0) q_int) qa_nil)))))) (qg_tup (qgs_cons (qg_name 5 nd) (qgs_cons (qg_name 6 nd) qgs_nil)) (glen_cons (glen_cons glen_nil))))
  (qss_cons (q_asg (q_call (D__law_led.at hr) (qa_cons (q_ix i_any (q_ix i_any (q_var 0) q_int) q_int) (qa_cons (q_var 7) (qa_cons (q_ix i_any (q_var 3) q_int) (qa_cons (q_ix i_any (q_var 9) q_int) (qa_cons (q_ix i_any (q_var 0) q_int) qa_nil)))))) (qg_tup (qgs_cons (qg_name 7 nd) (qgs_cons (qg_name 8 nd) qgs_nil)) (glen_cons (glen_cons glen_nil))))
  (qss_cons (q_set 4 nd (q_tup (qa_cons (q_bin o_add (q_slice (q_var 9) (qo_some q_int) qo_none) (q_slice (q_var 3) qo_none (qo_some q_int))) (qa_cons (q_bin o_add (q_slice (q_var 10) (qo_some q_int) qo_none) (q_slice (q_var 3) (qo_some q_int) qo_none)) qa_nil))))
  (qss_one (q_ret (q_tup (qa_cons (q_tup (qa_cons (q_tup (qa_cons (q_var 5) (qa_cons (q_var 7) qa_nil))) (qa_cons (q_var 4) qa_nil))) (qa_cons (q_var 3) (qa_cons (q_bin o_add (q_bin o_mul (q_tup (qa_cons q_int qa_nil)) (q_callTy f_int Z.z_int boot_int (qa_cons (q_var 8) qa_nil))) (q_bin o_mul (q_tup (qa_cons q_int qa_nil)) (q_callTy f_int Z.z_int boot_int (qa_cons (q_var 6) qa_nil)))) qa_nil)))))))))))
abbrev s__law_any_part : Stmt := topS 52
abbrev N__law_any_part : List Str := ["spring", "habit", "got"]
abbrev p__law_any_part : List Str := ["spring", "habit"]
theorem sc__law_any_part : FnScope N__law_any_part p__law_any_part (defScope s__law_any_part) := ⟨rfl, rfl, rfl, by decide +kernel, rfl, by decide +kernel, by decide +kernel⟩
theorem d__law_any_part (Z : Glob K mg) (Dx : Df K mg "_law_any_part" "_law_any_part" s__law_any_part p__law_any_part) (D__law_pick : DOk P w K mg base 1 "_law_pick" (spB K T F__law_pick)) : DOk P w K mg base 2 "_law_any_part" (spB K T F__law_any_part) := by
  refine dok_borrow (body := B__law_any_part) Dx sc__law_any_part rfl rfl fun f cdv A outer s H E hr => ?_
  have nd := (sc__law_any_part).nd
  unfold B__law_any_part
  exact (qss_cons (q_set 2 nd (q_ix i_any (q_lst (qa_cons q_str (qa_cons q_str (qa_cons q_str qa_nil)))) (q_bor 0 (D__law_pick.at hr) (qa_cons q_int qa_nil))))
  (qss_cons (q_ifS (qt_cmp (o_eq hr) (q_bor 0 (D__law_pick.at hr) (qa_cons q_int qa_nil)) q_int) (qss_one (q_ret (q_tup (qa_cons q_str (qa_cons (q_bor 0 (D__law_pick.at hr) (qa_cons (q_bin o_add (q_ix i_any (q_ix i_any (q_var 1) q_int) q_int) q_int) qa_nil)) (qa_cons (q_var 2) qa_nil)))))) qss_nil)
  (qss_one (q_ret (q_tup (qa_cons q_str (qa_cons (q_bin o_add q_int (q_bor 0 (D__law_pick.at hr) (qa_cons (q_bin o_isub (q_ix i_any (q_ix i_any (q_var 1) q_int) q_int) q_int) qa_nil))) (qa_cons (q_var 2) qa_nil))))))))
abbrev s_law : Stmt := topS 53
abbrev N_law : List Str := ["script", "at", "spring", "plan", "turn", "parts", "lines", "stand", "choice", "rows", "ears", "told", "there", "voices", "done", "delay", "place"]
abbrev p_law : List Str := ["script"]
theorem sc_law : FnScope N_law p_law (defScope s_law) := ⟨rfl, rfl, rfl, by decide +kernel, rfl, by decide +kernel, by decide +kernel⟩
theorem d_law (Z : Glob K mg) {f : Addr} {fd : FuncData} (Fx : Fun K "law" "law" s_law f fd) (D__law_spring : DOk P w K mg base 1 "_law_spring" (spO K T F__law_spring)) (D__law_plan : DOk P w K mg base 3 "_law_plan" (spB K T F__law_plan)) (D__law_any_part : DOk P w K mg base 2 "_law_any_part" (spB K T F__law_any_part)) (D__law_pick : DOk P w K mg base 1 "_law_pick" (spB K T F__law_pick)) (D__law_choices : DOk P w K mg base 2 "_law_choices" (spD K T F__law_choices)) (D__law_twins : DOk P w K mg base 11 "_law_twins" (spD K T (F__law_twins 10))) (D_heard : DOk P w K mg base 6 "heard" (spD K T F_heard)) (D_choices_at : DOk P w K mg base 6 "choices_at" (spD K T F_choices_at)) (D__law_tick : DOk P w K mg base 2 "_law_tick" (spD K T F__law_tick)) (D_whole : DOk P w K mg base 6 "whole" (spD K T F_whole)) (D_after : DOk P w K mg base 6 "after" (spD K T F_after)) (D_said : DOk P w K mg base 6 "said" (spD K T F_said)) : FnOk P w K mg base CX0 12 f fd p_law (spD K T F_law) := by
  refine fn_data (body := B_law) Fx sc_law rfl rfl fun f cdv A outer s H E hr => ?_
  have nd := (sc_law).nd
  unfold B_law
  exact (qss_cons (q_for (qi_range1 Z.z_range (qa_cons (q_bin o_add (q_callB (f_min2) Z.z_min boot_min (qa_cons (q_callB f_len Z.z_len PySem.boot_len (qa_cons (q_var 0) qa_nil)) (qa_cons q_int qa_nil))) q_int) qa_nil)) (qg_name 1 nd) (qss_cons (q_ownC 2 nd (D__law_spring.at hr) (qa_cons (q_var 0) (qa_cons (q_var 1) qa_nil)))
  (qss_cons (q_set 3 nd (q_bor 2 (D__law_plan.at hr) (qa_cons q_int qa_nil)))
  (qss_one (q_for (qi_range1 Z.z_range (qa_cons q_int qa_nil)) (qg_name 4 nd) (qss_cons (q_set 5 nd (q_tup (qa_cons (q_bor 2 (D__law_any_part.at hr) (qa_cons (q_ix i_any (q_ix i_any (q_var 3) q_int) q_int) qa_nil)) (qa_cons (q_bor 2 (D__law_any_part.at hr) (qa_cons (q_ix i_any (q_ix i_any (q_var 3) q_int) q_int) qa_nil)) qa_nil))))
  (qss_cons (q_set 6 nd (q_callTy f_tuple Z.z_tuple boot_tuple (qa_cons (q_lc [("delay", 15)] nd (qi_seq (q_ix i_any (q_var 3) q_int)) (blkOk_by (N := N_law) (sc := (defScope s_law)) (by decide +kernel)) (by decide) (fun _ _ _ _ _ => (qg_name 15 nd)) (fun _ _ _ _ _ => qts_nil) (fun _ _ _ _ _ => (q_callTy f_tuple Z.z_tuple boot_tuple (qa_cons (q_lc [("place", 16)] nd (qi_range1 Z.z_range (qa_cons (q_var 15) qa_nil)) (blkOk_by (N := N_law) (sc := (relS _ (defScope s_law))) (by decide +kernel)) (by decide) (fun _ _ _ _ _ => (qg_name 16 nd)) (fun _ _ _ _ _ => qts_nil) (fun _ _ _ _ _ => (q_bor 2 (D__law_pick.at hr) (qa_cons q_int qa_nil)))) qa_nil)))) qa_nil)))
  (qss_cons (q_set 7 nd (q_tup (qa_cons (q_var 5) (qa_cons (q_var 6) qa_nil))))
  (qss_cons (q_par 9 10 nd (qa_cons (q_call (D__law_choices.at hr) (qa_cons (q_var 3) (qa_cons (q_var 7) qa_nil))) (qa_cons (q_tup (qa_cons (q_ix i_any (q_ix i_any (q_var 6) q_int) q_int) (qa_cons (q_ix i_any (q_ix i_any (q_var 6) q_int) q_int) qa_nil))) qa_nil)))
  (qss_cons (q_ifS (qt_not (qt_val (q_call (D__law_twins.at hr) (qa_cons (q_lst (qa_cons (q_call (D_choices_at.at hr) (qa_cons (q_var 3) (qa_cons (q_var 7) qa_nil))) (qa_cons (q_call (D_heard.at hr) (qa_cons (q_var 3) (qa_cons (q_var 7) qa_nil))) qa_nil))) (qa_cons (q_lst (qa_cons (q_var 9) (qa_cons (q_var 10) qa_nil))) qa_nil))))) (qss_one (q_ret q_bl)) qss_nil)
  (qss_one (q_for (qi_seq (q_var 9)) (qg_name 8 nd) (qss_cons (q_asg (q_call (D__law_tick.at hr) (qa_cons (q_var 3) (qa_cons (q_var 7) (qa_cons (q_var 8) qa_nil)))) (qg_tup (qgs_cons (qg_name 12 nd) (qgs_cons (qg_name 13 nd) (qgs_cons (qg_name 14 nd) qgs_nil))) (glen_cons (glen_cons (glen_cons glen_nil)))))
  (qss_cons (q_set 11 nd (q_lst (qa_cons (q_call (D_said.at hr) (qa_cons (q_var 3) (qa_cons (q_var 7) (qa_cons (q_var 8) qa_nil)))) (qa_cons (q_call (D_after.at hr) (qa_cons (q_var 3) (qa_cons (q_var 7) (qa_cons (q_var 8) qa_nil)))) (qa_cons (q_call (D_whole.at hr) (qa_cons (q_var 3) (qa_cons (q_var 7) (qa_cons (q_var 8) qa_nil)))) qa_nil)))))
  (qss_one (q_ifS (qt_not (qt_val (q_call (D__law_twins.at hr) (qa_cons (q_var 11) (qa_cons (q_lst (qa_cons (q_var 13) (qa_cons (q_var 12) (qa_cons (q_var 14) qa_nil)))) qa_nil))))) (qss_one (q_ret q_bl)) qss_nil))))))))))))))))
  (qss_one (q_ret q_bl)))
end
/-- what the top left -/
structure Tops (K : PySem.W.Frag) (mg : Str → Option Value) : Prop where
  Z : Glob K mg
  t_is_within : Df K mg "is_within" "is_within" s_is_within p_is_within
  t_is_span : Df K mg "is_span" "is_span" s_is_span p_is_span
  t_is_habit : Df K mg "is_habit" "is_habit" s_is_habit p_is_habit
  t_size_of : Df K mg "size_of" "size_of" s_size_of p_size_of
  t_is_plan : Df K mg "is_plan" "is_plan" s_is_plan p_is_plan
  t_look_at_plan : Df K mg "look_at_plan" "look_at_plan" s_look_at_plan p_look_at_plan
  t_is_part : Df K mg "is_part" "is_part" s_is_part p_is_part
  t_is_line : Df K mg "is_line" "is_line" s_is_line p_is_line
  t_fits : Df K mg "fits" "fits" s_fits p_fits
  t_look_at_stand : Df K mg "look_at_stand" "look_at_stand" s_look_at_stand p_look_at_stand
  t_ways_of : Df K mg "ways_of" "ways_of" s_ways_of p_ways_of
  t_choices_of : Df K mg "choices_of" "choices_of" s_choices_of p_choices_of
  t_sign_of : Df K mg "sign_of" "sign_of" s_sign_of p_sign_of
  t_signs_of : Df K mg "signs_of" "signs_of" s_signs_of p_signs_of
  t_heard_by : Df K mg "heard_by" "heard_by" s_heard_by p_heard_by
  t_hearing_of : Df K mg "hearing_of" "hearing_of" s_hearing_of p_hearing_of
  t_is_whole : Df K mg "is_whole" "is_whole" s_is_whole p_is_whole
  t_talker_behind : Df K mg "talker_behind" "talker_behind" s_talker_behind p_talker_behind
  t_behind : Df K mg "behind" "behind" s_behind p_behind
  t_whole_by : Df K mg "whole_by" "whole_by" s_whole_by p_whole_by
  t_is_like : Df K mg "is_like" "is_like" s_is_like p_is_like
  t_look_at_choice : Df K mg "look_at_choice" "look_at_choice" s_look_at_choice p_look_at_choice
  t_choices_at : Df K mg "choices_at" "choices_at" s_choices_at p_choices_at
  t_said : Df K mg "said" "said" s_said p_said
  t_heard : Df K mg "heard" "heard" s_heard p_heard
  t_after : Df K mg "after" "after" s_after p_after
  t_whole : Df K mg "whole" "whole" s_whole p_whole
  t__law_spring : Df K mg "_law_spring" "_law_spring" s__law_spring p__law_spring
  t__law_pick : Df K mg "_law_pick" "_law_pick" s__law_pick p__law_pick
  t__law_kind : Df K mg "_law_kind" "_law_kind" s__law_kind p__law_kind
  t__law_twins : Df K mg "_law_twins" "_law_twins" s__law_twins p__law_twins
  t__law_habit : Df K mg "_law_habit" "_law_habit" s__law_habit p__law_habit
  t__law_size : Df K mg "_law_size" "_law_size" s__law_size p__law_size
  t__law_plan : Df K mg "_law_plan" "_law_plan" s__law_plan p__law_plan
  t__law_options : Df K mg "_law_options" "_law_options" s__law_options p__law_options
  t__law_choices : Df K mg "_law_choices" "_law_choices" s__law_choices p__law_choices
  t__law_voice : Df K mg "_law_voice" "_law_voice" s__law_voice p__law_voice
  t__law_led : Df K mg "_law_led" "_law_led" s__law_led p__law_led
  t__law_tick : Df K mg "_law_tick" "_law_tick" s__law_tick p__law_tick
  t__law_any_part : Df K mg "_law_any_part" "_law_any_part" s__law_any_part p__law_any_part
theorem all_ok {P : Program} {w : World} {K : PySem.W.Frag} {mg : Str → Option Value} {base : Heap} {T : Tb} (t : Tops K mg) {f : Addr} {fd : FuncData} (Fx : Fun K "law" "law" s_law f fd) : FnOk P w K mg base CX0 12 f fd p_law (spD K T F_law) := by
  have D_is_within := d_is_within (P := P) (w := w) (base := base) (T := T) t.Z t.t_is_within 
  have D_is_span := d_is_span (P := P) (w := w) (base := base) (T := T) t.Z t.t_is_span D_is_within
  have D_is_habit := d_is_habit (P := P) (w := w) (base := base) (T := T) t.Z t.t_is_habit D_is_span
  have D_size_of := d_size_of (P := P) (w := w) (base := base) (T := T) t.Z t.t_size_of 
  have D_is_plan := d_is_plan (P := P) (w := w) (base := base) (T := T) t.Z t.t_is_plan D_is_habit D_is_within D_size_of
  have D_look_at_plan := d_look_at_plan (P := P) (w := w) (base := base) (T := T) t.Z t.t_look_at_plan D_is_plan
  have D_is_part := d_is_part (P := P) (w := w) (base := base) (T := T) t.Z t.t_is_part D_is_within
  have D_is_line := d_is_line (P := P) (w := w) (base := base) (T := T) t.Z t.t_is_line D_is_within
  have D_fits := d_fits (P := P) (w := w) (base := base) (T := T) t.Z t.t_fits D_is_part D_is_line
  have D_look_at_stand := d_look_at_stand (P := P) (w := w) (base := base) (T := T) t.Z t.t_look_at_stand D_fits
  have D_ways_of := d_ways_of (P := P) (w := w) (base := base) (T := T) t.Z t.t_ways_of 
  have D_choices_of := d_choices_of (P := P) (w := w) (base := base) (T := T) t.Z t.t_choices_of D_ways_of
  have D_sign_of := d_sign_of (P := P) (w := w) (base := base) (T := T) t.Z t.t_sign_of 
  have D_signs_of := d_signs_of (P := P) (w := w) (base := base) (T := T) t.Z t.t_signs_of D_sign_of
  have D_heard_by := d_heard_by (P := P) (w := w) (base := base) (T := T) t.Z t.t_heard_by 
  have D_hearing_of := d_hearing_of (P := P) (w := w) (base := base) (T := T) t.Z t.t_hearing_of 
  have D_is_whole := d_is_whole (P := P) (w := w) (base := base) (T := T) t.Z t.t_is_whole D_hearing_of
  have D_talker_behind := d_talker_behind (P := P) (w := w) (base := base) (T := T) t.Z t.t_talker_behind D_hearing_of D_is_whole
  have D_behind := d_behind (P := P) (w := w) (base := base) (T := T) t.Z t.t_behind D_signs_of D_heard_by D_talker_behind
  have D_whole_by := d_whole_by (P := P) (w := w) (base := base) (T := T) t.Z t.t_whole_by D_heard_by D_signs_of D_is_whole
  have D_is_like := d_is_like (P := P) (w := w) (base := base) (T := T) t.Z t.t_is_like 
  have D_look_at_choice := d_look_at_choice (P := P) (w := w) (base := base) (T := T) t.Z t.t_look_at_choice D_is_like D_choices_of
  have D_choices_at := d_choices_at (P := P) (w := w) (base := base) (T := T) t.Z t.t_choices_at D_look_at_plan D_look_at_stand D_choices_of
  have D_said := d_said (P := P) (w := w) (base := base) (T := T) t.Z t.t_said D_look_at_plan D_look_at_stand D_look_at_choice D_signs_of
  have D_heard := d_heard (P := P) (w := w) (base := base) (T := T) t.Z t.t_heard D_look_at_plan D_look_at_stand D_heard_by
  have D_after := d_after (P := P) (w := w) (base := base) (T := T) t.Z t.t_after D_look_at_plan D_look_at_stand D_look_at_choice D_behind
  have D_whole := d_whole (P := P) (w := w) (base := base) (T := T) t.Z t.t_whole D_look_at_plan D_look_at_stand D_look_at_choice D_whole_by
  have D__law_spring := d__law_spring (P := P) (w := w) (base := base) (T := T) t.Z t.t__law_spring 
  have D__law_pick := d__law_pick (P := P) (w := w) (base := base) (T := T) t.Z t.t__law_pick 
  have D__law_kind := d__law_kind (P := P) (w := w) (base := base) (T := T) t.Z t.t__law_kind 
  have D__law_twins := d__law_twins (P := P) (w := w) (base := base) (T := T) t.Z t.t__law_twins D__law_kind 10
  have D__law_habit := d__law_habit (P := P) (w := w) (base := base) (T := T) t.Z t.t__law_habit D__law_pick
  have D__law_size := d__law_size (P := P) (w := w) (base := base) (T := T) t.Z t.t__law_size 
  have D__law_plan := d__law_plan (P := P) (w := w) (base := base) (T := T) t.Z t.t__law_plan D__law_habit D__law_pick D__law_size
  have D__law_options := d__law_options (P := P) (w := w) (base := base) (T := T) t.Z t.t__law_options 
  have D__law_choices := d__law_choices (P := P) (w := w) (base := base) (T := T) t.Z t.t__law_choices D__law_options
  have D__law_voice := d__law_voice (P := P) (w := w) (base := base) (T := T) t.Z t.t__law_voice 
  have D__law_led := d__law_led (P := P) (w := w) (base := base) (T := T) t.Z t.t__law_led 
  have D__law_tick := d__law_tick (P := P) (w := w) (base := base) (T := T) t.Z t.t__law_tick D__law_voice D__law_led
  have D__law_any_part := d__law_any_part (P := P) (w := w) (base := base) (T := T) t.Z t.t__law_any_part D__law_pick
  have D_law := d_law (P := P) (w := w) (base := base) (T := T) t.Z Fx D__law_spring D__law_plan D__law_any_part D__law_pick D__law_choices D__law_twins D_heard D_choices_at D__law_tick D_whole D_after D_said
  exact D_law
theorem bi_is_within : ∀ (kV doc pm : Value) (an : Option Addr) (cdv ct : Value) (us : List Value), us.length = p_is_within.length → bindArgs (PySem.W.fnOf "is_within" "is_within" (defArgs s_is_within) (defBody s_is_within) (defScope s_is_within) .none kV doc pm an cdv ct) ⟨us, []⟩ = pure (p_is_within.zip us) := fun _ _ _ _ _ _ us hl => match us, hl with | [_, _, _], _ => rfl
theorem bi_is_span : ∀ (kV doc pm : Value) (an : Option Addr) (cdv ct : Value) (us : List Value), us.length = p_is_span.length → bindArgs (PySem.W.fnOf "is_span" "is_span" (defArgs s_is_span) (defBody s_is_span) (defScope s_is_span) .none kV doc pm an cdv ct) ⟨us, []⟩ = pure (p_is_span.zip us) := fun _ _ _ _ _ _ us hl => match us, hl with | [_, _, _], _ => rfl
theorem bi_is_habit : ∀ (kV doc pm : Value) (an : Option Addr) (cdv ct : Value) (us : List Value), us.length = p_is_habit.length → bindArgs (PySem.W.fnOf "is_habit" "is_habit" (defArgs s_is_habit) (defBody s_is_habit) (defScope s_is_habit) .none kV doc pm an cdv ct) ⟨us, []⟩ = pure (p_is_habit.zip us) := fun _ _ _ _ _ _ us hl => match us, hl with | [_], _ => rfl
theorem bi_size_of : ∀ (kV doc pm : Value) (an : Option Addr) (cdv ct : Value) (us : List Value), us.length = p_size_of.length → bindArgs (PySem.W.fnOf "size_of" "size_of" (defArgs s_size_of) (defBody s_size_of) (defScope s_size_of) .none kV doc pm an cdv ct) ⟨us, []⟩ = pure (p_size_of.zip us) := fun _ _ _ _ _ _ us hl => match us, hl with | [_], _ => rfl
theorem bi_is_plan : ∀ (kV doc pm : Value) (an : Option Addr) (cdv ct : Value) (us : List Value), us.length = p_is_plan.length → bindArgs (PySem.W.fnOf "is_plan" "is_plan" (defArgs s_is_plan) (defBody s_is_plan) (defScope s_is_plan) .none kV doc pm an cdv ct) ⟨us, []⟩ = pure (p_is_plan.zip us) := fun _ _ _ _ _ _ us hl => match us, hl with | [_], _ => rfl
theorem bi_look_at_plan : ∀ (kV doc pm : Value) (an : Option Addr) (cdv ct : Value) (us : List Value), us.length = p_look_at_plan.length → bindArgs (PySem.W.fnOf "look_at_plan" "look_at_plan" (defArgs s_look_at_plan) (defBody s_look_at_plan) (defScope s_look_at_plan) .none kV doc pm an cdv ct) ⟨us, []⟩ = pure (p_look_at_plan.zip us) := fun _ _ _ _ _ _ us hl => match us, hl with | [_], _ => rfl
theorem bi_is_part : ∀ (kV doc pm : Value) (an : Option Addr) (cdv ct : Value) (us : List Value), us.length = p_is_part.length → bindArgs (PySem.W.fnOf "is_part" "is_part" (defArgs s_is_part) (defBody s_is_part) (defScope s_is_part) .none kV doc pm an cdv ct) ⟨us, []⟩ = pure (p_is_part.zip us) := fun _ _ _ _ _ _ us hl => match us, hl with | [_, _], _ => rfl
theorem bi_is_line : ∀ (kV doc pm : Value) (an : Option Addr) (cdv ct : Value) (us : List Value), us.length = p_is_line.length → bindArgs (PySem.W.fnOf "is_line" "is_line" (defArgs s_is_line) (defBody s_is_line) (defScope s_is_line) .none kV doc pm an cdv ct) ⟨us, []⟩ = pure (p_is_line.zip us) := fun _ _ _ _ _ _ us hl => match us, hl with | [_, _], _ => rfl
theorem bi_fits : ∀ (kV doc pm : Value) (an : Option Addr) (cdv ct : Value) (us : List Value), us.length = p_fits.length → bindArgs (PySem.W.fnOf "fits" "fits" (defArgs s_fits) (defBody s_fits) (defScope s_fits) .none kV doc pm an cdv ct) ⟨us, []⟩ = pure (p_fits.zip us) := fun _ _ _ _ _ _ us hl => match us, hl with | [_, _], _ => rfl
theorem bi_look_at_stand : ∀ (kV doc pm : Value) (an : Option Addr) (cdv ct : Value) (us : List Value), us.length = p_look_at_stand.length → bindArgs (PySem.W.fnOf "look_at_stand" "look_at_stand" (defArgs s_look_at_stand) (defBody s_look_at_stand) (defScope s_look_at_stand) .none kV doc pm an cdv ct) ⟨us, []⟩ = pure (p_look_at_stand.zip us) := fun _ _ _ _ _ _ us hl => match us, hl with | [_, _], _ => rfl
theorem bi_ways_of : ∀ (kV doc pm : Value) (an : Option Addr) (cdv ct : Value) (us : List Value), us.length = p_ways_of.length → bindArgs (PySem.W.fnOf "ways_of" "ways_of" (defArgs s_ways_of) (defBody s_ways_of) (defScope s_ways_of) .none kV doc pm an cdv ct) ⟨us, []⟩ = pure (p_ways_of.zip us) := fun _ _ _ _ _ _ us hl => match us, hl with | [_, _], _ => rfl
theorem bi_choices_of : ∀ (kV doc pm : Value) (an : Option Addr) (cdv ct : Value) (us : List Value), us.length = p_choices_of.length → bindArgs (PySem.W.fnOf "choices_of" "choices_of" (defArgs s_choices_of) (defBody s_choices_of) (defScope s_choices_of) .none kV doc pm an cdv ct) ⟨us, []⟩ = pure (p_choices_of.zip us) := fun _ _ _ _ _ _ us hl => match us, hl with | [_, _], _ => rfl
theorem bi_sign_of : ∀ (kV doc pm : Value) (an : Option Addr) (cdv ct : Value) (us : List Value), us.length = p_sign_of.length → bindArgs (PySem.W.fnOf "sign_of" "sign_of" (defArgs s_sign_of) (defBody s_sign_of) (defScope s_sign_of) .none kV doc pm an cdv ct) ⟨us, []⟩ = pure (p_sign_of.zip us) := fun _ _ _ _ _ _ us hl => match us, hl with | [_, _], _ => rfl
theorem bi_signs_of : ∀ (kV doc pm : Value) (an : Option Addr) (cdv ct : Value) (us : List Value), us.length = p_signs_of.length → bindArgs (PySem.W.fnOf "signs_of" "signs_of" (defArgs s_signs_of) (defBody s_signs_of) (defScope s_signs_of) .none kV doc pm an cdv ct) ⟨us, []⟩ = pure (p_signs_of.zip us) := fun _ _ _ _ _ _ us hl => match us, hl with | [_, _], _ => rfl
theorem bi_heard_by : ∀ (kV doc pm : Value) (an : Option Addr) (cdv ct : Value) (us : List Value), us.length = p_heard_by.length → bindArgs (PySem.W.fnOf "heard_by" "heard_by" (defArgs s_heard_by) (defBody s_heard_by) (defScope s_heard_by) .none kV doc pm an cdv ct) ⟨us, []⟩ = pure (p_heard_by.zip us) := fun _ _ _ _ _ _ us hl => match us, hl with | [_], _ => rfl
theorem bi_hearing_of : ∀ (kV doc pm : Value) (an : Option Addr) (cdv ct : Value) (us : List Value), us.length = p_hearing_of.length → bindArgs (PySem.W.fnOf "hearing_of" "hearing_of" (defArgs s_hearing_of) (defBody s_hearing_of) (defScope s_hearing_of) .none kV doc pm an cdv ct) ⟨us, []⟩ = pure (p_hearing_of.zip us) := fun _ _ _ _ _ _ us hl => match us, hl with | [_, _, _], _ => rfl
theorem bi_is_whole : ∀ (kV doc pm : Value) (an : Option Addr) (cdv ct : Value) (us : List Value), us.length = p_is_whole.length → bindArgs (PySem.W.fnOf "is_whole" "is_whole" (defArgs s_is_whole) (defBody s_is_whole) (defScope s_is_whole) .none kV doc pm an cdv ct) ⟨us, []⟩ = pure (p_is_whole.zip us) := fun _ _ _ _ _ _ us hl => match us, hl with | [_, _, _], _ => rfl
theorem bi_talker_behind : ∀ (kV doc pm : Value) (an : Option Addr) (cdv ct : Value) (us : List Value), us.length = p_talker_behind.length → bindArgs (PySem.W.fnOf "talker_behind" "talker_behind" (defArgs s_talker_behind) (defBody s_talker_behind) (defScope s_talker_behind) .none kV doc pm an cdv ct) ⟨us, []⟩ = pure (p_talker_behind.zip us) := fun _ _ _ _ _ _ us hl => match us, hl with | [_, _, _, _, _], _ => rfl
theorem bi_behind : ∀ (kV doc pm : Value) (an : Option Addr) (cdv ct : Value) (us : List Value), us.length = p_behind.length → bindArgs (PySem.W.fnOf "behind" "behind" (defArgs s_behind) (defBody s_behind) (defScope s_behind) .none kV doc pm an cdv ct) ⟨us, []⟩ = pure (p_behind.zip us) := fun _ _ _ _ _ _ us hl => match us, hl with | [_, _, _], _ => rfl
theorem bi_whole_by : ∀ (kV doc pm : Value) (an : Option Addr) (cdv ct : Value) (us : List Value), us.length = p_whole_by.length → bindArgs (PySem.W.fnOf "whole_by" "whole_by" (defArgs s_whole_by) (defBody s_whole_by) (defScope s_whole_by) .none kV doc pm an cdv ct) ⟨us, []⟩ = pure (p_whole_by.zip us) := fun _ _ _ _ _ _ us hl => match us, hl with | [_, _], _ => rfl
theorem bi_is_like : ∀ (kV doc pm : Value) (an : Option Addr) (cdv ct : Value) (us : List Value), us.length = p_is_like.length → bindArgs (PySem.W.fnOf "is_like" "is_like" (defArgs s_is_like) (defBody s_is_like) (defScope s_is_like) .none kV doc pm an cdv ct) ⟨us, []⟩ = pure (p_is_like.zip us) := fun _ _ _ _ _ _ us hl => match us, hl with | [_, _], _ => rfl
theorem bi_look_at_choice : ∀ (kV doc pm : Value) (an : Option Addr) (cdv ct : Value) (us : List Value), us.length = p_look_at_choice.length → bindArgs (PySem.W.fnOf "look_at_choice" "look_at_choice" (defArgs s_look_at_choice) (defBody s_look_at_choice) (defScope s_look_at_choice) .none kV doc pm an cdv ct) ⟨us, []⟩ = pure (p_look_at_choice.zip us) := fun _ _ _ _ _ _ us hl => match us, hl with | [_, _, _], _ => rfl
theorem bi_choices_at : ∀ (kV doc pm : Value) (an : Option Addr) (cdv ct : Value) (us : List Value), us.length = p_choices_at.length → bindArgs (PySem.W.fnOf "choices_at" "choices_at" (defArgs s_choices_at) (defBody s_choices_at) (defScope s_choices_at) .none kV doc pm an cdv ct) ⟨us, []⟩ = pure (p_choices_at.zip us) := fun _ _ _ _ _ _ us hl => match us, hl with | [_, _], _ => rfl
theorem bi_said : ∀ (kV doc pm : Value) (an : Option Addr) (cdv ct : Value) (us : List Value), us.length = p_said.length → bindArgs (PySem.W.fnOf "said" "said" (defArgs s_said) (defBody s_said) (defScope s_said) .none kV doc pm an cdv ct) ⟨us, []⟩ = pure (p_said.zip us) := fun _ _ _ _ _ _ us hl => match us, hl with | [_, _, _], _ => rfl
theorem bi_heard : ∀ (kV doc pm : Value) (an : Option Addr) (cdv ct : Value) (us : List Value), us.length = p_heard.length → bindArgs (PySem.W.fnOf "heard" "heard" (defArgs s_heard) (defBody s_heard) (defScope s_heard) .none kV doc pm an cdv ct) ⟨us, []⟩ = pure (p_heard.zip us) := fun _ _ _ _ _ _ us hl => match us, hl with | [_, _], _ => rfl
theorem bi_after : ∀ (kV doc pm : Value) (an : Option Addr) (cdv ct : Value) (us : List Value), us.length = p_after.length → bindArgs (PySem.W.fnOf "after" "after" (defArgs s_after) (defBody s_after) (defScope s_after) .none kV doc pm an cdv ct) ⟨us, []⟩ = pure (p_after.zip us) := fun _ _ _ _ _ _ us hl => match us, hl with | [_, _, _], _ => rfl
theorem bi_whole : ∀ (kV doc pm : Value) (an : Option Addr) (cdv ct : Value) (us : List Value), us.length = p_whole.length → bindArgs (PySem.W.fnOf "whole" "whole" (defArgs s_whole) (defBody s_whole) (defScope s_whole) .none kV doc pm an cdv ct) ⟨us, []⟩ = pure (p_whole.zip us) := fun _ _ _ _ _ _ us hl => match us, hl with | [_, _, _], _ => rfl
theorem bi__law_spring : ∀ (kV doc pm : Value) (an : Option Addr) (cdv ct : Value) (us : List Value), us.length = p__law_spring.length → bindArgs (PySem.W.fnOf "_law_spring" "_law_spring" (defArgs s__law_spring) (defBody s__law_spring) (defScope s__law_spring) .none kV doc pm an cdv ct) ⟨us, []⟩ = pure (p__law_spring.zip us) := fun _ _ _ _ _ _ us hl => match us, hl with | [_, _], _ => rfl
theorem bi__law_pick : ∀ (kV doc pm : Value) (an : Option Addr) (cdv ct : Value) (us : List Value), us.length = p__law_pick.length → bindArgs (PySem.W.fnOf "_law_pick" "_law_pick" (defArgs s__law_pick) (defBody s__law_pick) (defScope s__law_pick) .none kV doc pm an cdv ct) ⟨us, []⟩ = pure (p__law_pick.zip us) := fun _ _ _ _ _ _ us hl => match us, hl with | [_, _], _ => rfl
theorem bi__law_kind : ∀ (kV doc pm : Value) (an : Option Addr) (cdv ct : Value) (us : List Value), us.length = p__law_kind.length → bindArgs (PySem.W.fnOf "_law_kind" "_law_kind" (defArgs s__law_kind) (defBody s__law_kind) (defScope s__law_kind) .none kV doc pm an cdv ct) ⟨us, []⟩ = pure (p__law_kind.zip us) := fun _ _ _ _ _ _ us hl => match us, hl with | [_], _ => rfl
theorem bi__law_twins : ∀ (kV doc pm : Value) (an : Option Addr) (cdv ct : Value) (us : List Value), us.length = p__law_twins.length → bindArgs (PySem.W.fnOf "_law_twins" "_law_twins" (defArgs s__law_twins) (defBody s__law_twins) (defScope s__law_twins) .none kV doc pm an cdv ct) ⟨us, []⟩ = pure (p__law_twins.zip us) := fun _ _ _ _ _ _ us hl => match us, hl with | [_, _], _ => rfl
theorem bi__law_habit : ∀ (kV doc pm : Value) (an : Option Addr) (cdv ct : Value) (us : List Value), us.length = p__law_habit.length → bindArgs (PySem.W.fnOf "_law_habit" "_law_habit" (defArgs s__law_habit) (defBody s__law_habit) (defScope s__law_habit) .none kV doc pm an cdv ct) ⟨us, []⟩ = pure (p__law_habit.zip us) := fun _ _ _ _ _ _ us hl => match us, hl with | [_, _], _ => rfl
theorem bi__law_size : ∀ (kV doc pm : Value) (an : Option Addr) (cdv ct : Value) (us : List Value), us.length = p__law_size.length → bindArgs (PySem.W.fnOf "_law_size" "_law_size" (defArgs s__law_size) (defBody s__law_size) (defScope s__law_size) .none kV doc pm an cdv ct) ⟨us, []⟩ = pure (p__law_size.zip us) := fun _ _ _ _ _ _ us hl => match us, hl with | [_], _ => rfl
theorem bi__law_plan : ∀ (kV doc pm : Value) (an : Option Addr) (cdv ct : Value) (us : List Value), us.length = p__law_plan.length → bindArgs (PySem.W.fnOf "_law_plan" "_law_plan" (defArgs s__law_plan) (defBody s__law_plan) (defScope s__law_plan) .none kV doc pm an cdv ct) ⟨us, []⟩ = pure (p__law_plan.zip us) := fun _ _ _ _ _ _ us hl => match us, hl with | [_, _], _ => rfl
theorem bi__law_options : ∀ (kV doc pm : Value) (an : Option Addr) (cdv ct : Value) (us : List Value), us.length = p__law_options.length → bindArgs (PySem.W.fnOf "_law_options" "_law_options" (defArgs s__law_options) (defBody s__law_options) (defScope s__law_options) .none kV doc pm an cdv ct) ⟨us, []⟩ = pure (p__law_options.zip us) := fun _ _ _ _ _ _ us hl => match us, hl with | [_, _], _ => rfl
theorem bi__law_choices : ∀ (kV doc pm : Value) (an : Option Addr) (cdv ct : Value) (us : List Value), us.length = p__law_choices.length → bindArgs (PySem.W.fnOf "_law_choices" "_law_choices" (defArgs s__law_choices) (defBody s__law_choices) (defScope s__law_choices) .none kV doc pm an cdv ct) ⟨us, []⟩ = pure (p__law_choices.zip us) := fun _ _ _ _ _ _ us hl => match us, hl with | [_, _], _ => rfl
theorem bi__law_voice : ∀ (kV doc pm : Value) (an : Option Addr) (cdv ct : Value) (us : List Value), us.length = p__law_voice.length → bindArgs (PySem.W.fnOf "_law_voice" "_law_voice" (defArgs s__law_voice) (defBody s__law_voice) (defScope s__law_voice) .none kV doc pm an cdv ct) ⟨us, []⟩ = pure (p__law_voice.zip us) := fun _ _ _ _ _ _ us hl => match us, hl with | [_, _], _ => rfl
theorem bi__law_led : ∀ (kV doc pm : Value) (an : Option Addr) (cdv ct : Value) (us : List Value), us.length = p__law_led.length → bindArgs (PySem.W.fnOf "_law_led" "_law_led" (defArgs s__law_led) (defBody s__law_led) (defScope s__law_led) .none kV doc pm an cdv ct) ⟨us, []⟩ = pure (p__law_led.zip us) := fun _ _ _ _ _ _ us hl => match us, hl with | [_, _, _, _, _], _ => rfl
theorem bi__law_tick : ∀ (kV doc pm : Value) (an : Option Addr) (cdv ct : Value) (us : List Value), us.length = p__law_tick.length → bindArgs (PySem.W.fnOf "_law_tick" "_law_tick" (defArgs s__law_tick) (defBody s__law_tick) (defScope s__law_tick) .none kV doc pm an cdv ct) ⟨us, []⟩ = pure (p__law_tick.zip us) := fun _ _ _ _ _ _ us hl => match us, hl with | [_, _, _], _ => rfl
theorem bi__law_any_part : ∀ (kV doc pm : Value) (an : Option Addr) (cdv ct : Value) (us : List Value), us.length = p__law_any_part.length → bindArgs (PySem.W.fnOf "_law_any_part" "_law_any_part" (defArgs s__law_any_part) (defBody s__law_any_part) (defScope s__law_any_part) .none kV doc pm an cdv ct) ⟨us, []⟩ = pure (p__law_any_part.zip us) := fun _ _ _ _ _ _ us hl => match us, hl with | [_, _], _ => rfl
theorem bi_law : ∀ (kV doc pm : Value) (an : Option Addr) (cdv ct : Value) (us : List Value), us.length = p_law.length → bindArgs (PySem.W.fnOf "law" "law" (defArgs s_law) (defBody s_law) (defScope s_law) .none kV doc pm an cdv ct) ⟨us, []⟩ = pure (p_law.zip us) := fun _ _ _ _ _ _ us hl => match us, hl with | [_], _ => rfl
end VS

namespace VS
open PySem PySem.Spec PyProof.Rows L2

theorem hgs_eq {r : Int} (h0 : 0 ≤ r) (h1 : r < 3) : ∃ g : Hg, dIx (.list [.str sNo, .str sTo, .str sWh]) (.int r) = some (.str g.s) := by
  rcases cases3 h0 h1 with rfl | rfl | rfl
  · exact ⟨.none, rfl⟩
  · exact ⟨.torn, rfl⟩
  · exact ⟨.whole, rfl⟩
theorem any_part_ok {h : Hab} (k : h.Ok) {es : List D} (hs : Spr es) : ∃ (p : Prt) (es' : List D), F__law_any_part es [h.d] = some (p.d, es') ∧ p.Ok h ∧ Spr es' := by
  obtain ⟨a1, a2, a3, b1, b2, b3⟩ := k
  obtain ⟨r1, es1, p1, c1, d1, s1⟩ := pick_ok hs 3 (by decide) (by decide)
  obtain ⟨r2, es2, p2, c2, d2, s2⟩ := pick_ok s1 2 (by decide) (by decide)
  obtain ⟨g, hg⟩ := hgs_eq c1 d1
  by_cases hr : r2 = 0
  · subst hr
    obtain ⟨r3, es3, p3, c3, d3, s3⟩ := pick_ok s2 (h.w1 + 1) (by omega) (by omega)
    exact ⟨⟨false, r3, g⟩, es3, by simp [F__law_any_part, B__law_any_part, callD, callB, callO, args0, sSeq, sIf, sRet, sRetN, sRetO, sDrop, sAsg, sPar, sNx, sBk, sCt, sNever, eVar, eC, e1, e2, eIf, asB, eAnd, eOr, tAndM, tOrM, dNot, tNotB, aNil, aCons, mkT_ok, mkL_ok, gName, gsNil, gsCons, gTup, gLst, eChain, oNone, oSome, eSl, dIsi, dIsi2, tYesM, eBor, isOl, p1, p2, p3, hg, Hab.d, Prt.d, modeS], ⟨c3, by show r3 ≤ h.w1; omega⟩, s3⟩
  · obtain ⟨r3, es3, p3, c3, d3, s3⟩ := pick_ok s2 (h.s1 - 1) (by omega) (by omega)
    exact ⟨⟨true, 1 + r3, g⟩, es3, by simp [F__law_any_part, B__law_any_part, callD, callB, callO, args0, sSeq, sIf, sRet, sRetN, sRetO, sDrop, sAsg, sPar, sNx, sBk, sCt, sNever, eVar, eC, e1, e2, eIf, asB, eAnd, eOr, tAndM, tOrM, dNot, tNotB, aNil, aCons, mkT_ok, mkL_ok, gName, gsNil, gsCons, gTup, gLst, eChain, oNone, oSome, eSl, dIsi, dIsi2, tYesM, eBor, isOl, p1, p2, p3, hg, hr, Hab.d, Prt.d, modeS], ⟨by show 1 ≤ 1 + r3; omega, by show 1 + r3 ≤ h.s1 - 1; omega⟩, s3⟩
theorem one_line (n : Int) (h0 : 0 ≤ n) (h1 : n ≤ 3) (x0 x1 x2 x3 x4 x5 x6 x7 x8 x9 x10 x11 x12 x13 x14 x15 x16 : Option SV) (hx : nol x16) {es : List D} (hs : Spr es) : ∃ (l : List Int) (es' : List D),
    eLc (e1 iR1 (aCons (eVar 15) aNil)) (gName 16) tYesM (eBor 2 F__law_pick (aCons (eC (.int 4)) aNil)) [16] [x0, x1, some (.ol es), x3, x4, x5, x6, x7, x8, x9, x10, x11, x12, x13, x14, some (.dat (.int n)), x16] = some (.list (l.map .int), [x0, x1, some (.ol es'), x3, x4, x5, x6, x7, x8, x9, x10, x11, x12, x13, x14, some (.dat (.int n)), x16]) ∧ lineOk n l ∧ Spr es' := by
  have k0 := iR1_ok h0 (Int.lt_of_le_of_lt h1 (by decide))
  obtain ⟨ys, ρ', q1, ⟨es', s', rfl⟩, q3, q4⟩ := lc_invP (t := gName 16) (c := tYesM) (e := eBor 2 F__law_pick (aCons (eC (.int 4)) aNil)) (vs := [16]) (fun ρ => ∃ es, Spr es ∧ ρ = [x0, x1, some (.ol es), x3, x4, x5, x6, x7, x8, x9, x10, x11, x12, x13, x14, some (.dat (.int n)), none]) (fun y => ∃ i : Int, y = .int i ∧ 0 ≤ i ∧ i ≤ 3) (ds := rgD 0 n.toNat) (by
    rintro d hd ρ ⟨es, s, rfl⟩
    obtain ⟨r, es', b1, b2, b3, b4⟩ := pick_ok s 4 (by decide) (by decide)
    exact ⟨_, _, .int r, [x0, x1, some (.ol es'), x3, x4, x5, x6, x7, x8, x9, x10, x11, x12, x13, x14, some (.dat (.int n)), some (.dat d)], rfl, rfl, by simp [eBor, isOl, callD, callB, callO, args0, sSeq, sIf, sRet, sRetN, sRetO, sDrop, sAsg, sPar, sNx, sBk, sCt, sNever, eVar, eC, e1, e2, eIf, asB, eAnd, eOr, tAndM, tOrM, dNot, tNotB, aNil, aCons, mkT_ok, mkL_ok, gName, gsNil, gsCons, gTup, gLst, eChain, oNone, oSome, eSl, dIsi, dIsi2, tYesM, b1], ⟨es', b4, rfl⟩, r, rfl, b2, by omega⟩) [x0, x1, some (.ol es), x3, x4, x5, x6, x7, x8, x9, x10, x11, x12, x13, x14, some (.dat (.int n)), none] ⟨es, hs, rfl⟩
  obtain ⟨l, rfl, hl⟩ := ints_of q4
  rw [rg_len, List.length_map] at q3
  refine ⟨l, es', ?_, ⟨by omega, hl⟩, s'⟩
  have k1 : isOl [x0, x1, some (.ol es), x3, x4, x5, x6, x7, x8, x9, x10, x11, x12, x13, x14, some (.dat (.int n)), x16] 16 = none := isOl_no rfl hx
  have k2 : l.length ≤ most := by unfold most; omega
  simp [eLc, callD, callB, callO, args0, sSeq, sIf, sRet, sRetN, sRetO, sDrop, sAsg, sPar, sNx, sBk, sCt, sNever, eVar, eC, e1, e2, eIf, asB, eAnd, eOr, tAndM, tOrM, dNot, tNotB, aNil, aCons, mkT_ok, mkL_ok, gName, gsNil, gsCons, gTup, gLst, eChain, oNone, oSome, eSl, dIsi, dIsi2, tYesM, k0, okW, k1, wipeR, q1, k2, restR]
theorem lines_ok {p : Pln} (k : p.Sh) (x0 x1 x2 x3 x4 x5 x6 x7 x8 x9 x10 x11 x12 x13 x14 x15 x16 : Option SV) (h15 : nol x15) (h16 : nol x16) {es : List D} (hs : Spr es) : ∃ (l m : List Int) (es' : List D),
    eLc (e1 iSeq (e2 dIx (eVar 3) (eC (.int 1)))) (gName 15) tYesM (e1 fTuple (aCons (eLc (e1 iR1 (aCons (eVar 15) aNil)) (gName 16) tYesM (eBor 2 F__law_pick (aCons (eC (.int 4)) aNil)) [16]) aNil)) [15] [x0, x1, some (.ol es), some (.dat p.d), x4, x5, x6, x7, x8, x9, x10, x11, x12, x13, x14, x15, x16] = some (.list [lineD l, lineD m], [x0, x1, some (.ol es'), some (.dat p.d), x4, x5, x6, x7, x8, x9, x10, x11, x12, x13, x14, x15, x16]) ∧ lineOk p.x l ∧ lineOk p.y m ∧ Spr es' := by
  obtain ⟨l, es1, q1, o1, s1⟩ := one_line p.x (Int.le_trans (by decide) k.x1) k.x2 x0 x1 x2 (some (.dat p.d)) x4 x5 x6 x7 x8 x9 x10 x11 x12 x13 x14 x15 x16 h16 hs
  obtain ⟨m, es2, q2, o2, s2⟩ := one_line p.y (Int.le_trans (by decide) k.y1) k.y2 x0 x1 x2 (some (.dat p.d)) x4 x5 x6 x7 x8 x9 x10 x11 x12 x13 x14 x15 x16 h16 s1
  refine ⟨l, m, es2, ?_, o1, o2, s2⟩
  have k1 : isOl [x0, x1, some (.ol es), some (.dat p.d), x4, x5, x6, x7, x8, x9, x10, x11, x12, x13, x14, x15, x16] 15 = none := isOl_no rfl h15
  have k2 : dIx p.d (.int 1) = some (.tuple [.int p.x, .int p.y]) := rfl
  have f1 : e1 fTuple (aCons (eLc (e1 iR1 (aCons (eVar 15) aNil)) (gName 16) tYesM (eBor 2 F__law_pick (aCons (eC (.int 4)) aNil)) [16]) aNil) [x0, x1, some (.ol es), some (.dat p.d), x4, x5, x6, x7, x8, x9, x10, x11, x12, x13, x14, some (.dat (.int p.x)), x16] = some (lineD l, [x0, x1, some (.ol es1), some (.dat p.d), x4, x5, x6, x7, x8, x9, x10, x11, x12, x13, x14, some (.dat (.int p.x)), x16]) := by
    simp [VS.e1, aCons, aNil, q1, fTuple, lineD]
  have f2 : e1 fTuple (aCons (eLc (e1 iR1 (aCons (eVar 15) aNil)) (gName 16) tYesM (eBor 2 F__law_pick (aCons (eC (.int 4)) aNil)) [16]) aNil) [x0, x1, some (.ol es1), some (.dat p.d), x4, x5, x6, x7, x8, x9, x10, x11, x12, x13, x14, some (.dat (.int p.y)), x16] = some (lineD m, [x0, x1, some (.ol es2), some (.dat p.d), x4, x5, x6, x7, x8, x9, x10, x11, x12, x13, x14, some (.dat (.int p.y)), x16]) := by
    simp [VS.e1, aCons, aNil, q2, fTuple, lineD]
  have k3 : (e1 iSeq (e2 dIx (eVar 3) (eC (.int 1)))) [x0, x1, some (.ol es), some (.dat p.d), x4, x5, x6, x7, x8, x9, x10, x11, x12, x13, x14, x15, x16] = some ([.int p.x, .int p.y], [x0, x1, some (.ol es), some (.dat p.d), x4, x5, x6, x7, x8, x9, x10, x11, x12, x13, x14, x15, x16]) := by simp [callD, callB, callO, args0, sSeq, sIf, sRet, sRetN, sRetO, sDrop, sAsg, sPar, sNx, sBk, sCt, sNever, eVar, eC, e1, e2, eIf, asB, eAnd, eOr, tAndM, tOrM, dNot, tNotB, aNil, aCons, mkT_ok, mkL_ok, gName, gsNil, gsCons, gTup, gLst, eChain, oNone, oSome, eSl, dIsi, dIsi2, tYesM, k2]
  generalize (e1 fTuple (aCons (eLc (e1 iR1 (aCons (eVar 15) aNil)) (gName 16) tYesM (eBor 2 F__law_pick (aCons (eC (.int 4)) aNil)) [16]) aNil)) = E at f1 f2 ⊢
  unfold eLc
  simp only [k3]
  simp [okW, k1, wipeR, lcGo, gName, tYesM, f1, f2, restR, most]
theorem inner3 {p : Pln} (k : p.Ok) {s : Std} (o : s.Ok p) {c : Bool × Bool} (m : c ∈ chs p s) (x0 x1 x2 x3 x4 x5 x6 x7 x8 x9 x10 x11 x12 x13 x14 x15 x16 : Option SV) : ∃ (y11 y12 y13 y14 : Option SV),
    L_law_0 [x0, x1, x2, some (.dat p.d), x4, x5, x6, some (.dat s.d), some (.dat (prD c)), x9, x10, x11, x12, x13, x14, x15, x16] = some (.nx, [x0, x1, x2, some (.dat p.d), x4, x5, x6, some (.dat s.d), some (.dat (prD c)), x9, x10, y11, y12, y13, y14, x15, x16]) := by
  have k1 := law_tick_eq k.toSh o c
  have k2 := said_eq k o m
  have k3 := after_eq k o m
  have k4 := whole_eq k o m
  have k5 : F__law_twins 10 [.list [vsD (voices s c), (tick p s c).d, lineD (dones p s c)], .list [vsD (voices s c), (tick p s c).d, lineD (dones p s c)]] = some (.bool true) := twins_yes (n := 9) (list_okP (by simp) (by
    intro d hd
    simp only [List.mem_cons, List.not_mem_nil, or_false] at hd
    rcases hd with rfl | rfl | rfl
    · exact vs_okP 7 _
    · exact std_okP 5 k.toSh (tick_ok k.toSh o m)
    · exact dones_okP 7 p s c))
  refine ⟨some (.dat (.list [vsD (voices s c), (tick p s c).d, lineD (dones p s c)])), some (.dat (tick p s c).d), some (.dat (vsD (voices s c))), some (.dat (lineD (dones p s c))), ?_⟩
  simp [L_law_0, callD, callB, callO, args0, sSeq, sIf, sRet, sRetN, sRetO, sDrop, sAsg, sPar, sNx, sBk, sCt, sNever, eVar, eC, e1, e2, eIf, asB, eAnd, eOr, tAndM, tOrM, dNot, tNotB, aNil, aCons, mkT_ok, mkL_ok, gName, gsNil, gsCons, gTup, gLst, eChain, oNone, oSome, eSl, dIsi, dIsi2, tYesM, k1, k2, k3, k4, k5]
theorem body1 {p : Pln} (k : p.Ok) (x0 x1 x2 x3 x4 x5 x6 x7 x8 x9 x10 x11 x12 x13 x14 x15 x16 : Option SV) (h15 : nol x15) (h16 : nol x16) {es : List D} (hs : Spr es) : ∃ (es' : List D) (y5 y6 y7 y8 y9 y10 y11 y12 y13 y14 : Option SV),
    L_law_1 [x0, x1, some (.ol es), some (.dat p.d), x4, x5, x6, x7, x8, x9, x10, x11, x12, x13, x14, x15, x16] = some (.nx, [x0, x1, some (.ol es'), some (.dat p.d), x4, y5, y6, y7, y8, y9, y10, y11, y12, y13, y14, x15, x16]) ∧ Spr es' := by
  obtain ⟨P, es1, q1, o1, s1⟩ := any_part_ok k.a hs
  obtain ⟨Q, es2, q2, o2, s2⟩ := any_part_ok k.b s1
  obtain ⟨l, m, es3, q3, o3, o4, s3⟩ := lines_ok k.toSh x0 x1 x2 x3 x4 (some (.dat (.tuple [P.d, Q.d]))) x6 x7 x8 x9 x10 x11 x12 x13 x14 x15 x16 h15 h16 s2
  have o : Std.Ok p ⟨P, Q, l, m⟩ := ⟨o1, o2, o3, o4⟩
  generalize hS : (⟨P, Q, l, m⟩ : Std) = S at o
  have eS : S.d = .tuple [.tuple [P.d, Q.d], .tuple [lineD l, lineD m]] := by rw [← hS]; rfl
  obtain ⟨ρ', g1, y8, y11, y12, y13, y14, rfl⟩ := for_inv (t := gName 8) (b := L_law_0) (fun ρ => ∃ (y8 y11 y12 y13 y14 : Option SV), ρ = [x0, x1, some (.ol es3), some (.dat p.d), x4, some (.dat (.tuple [P.d, Q.d])), some (.dat (.tuple [lineD l, lineD m])), some (.dat S.d), y8, some (.dat (chD (chs p S))), some (.dat (earsD S)), y11, y12, y13, y14, x15, x16]) (ds := (chs p S).map prD) (by
    rintro d hd ρ ⟨y8, y11, y12, y13, y14, rfl⟩
    obtain ⟨c, hc, rfl⟩ := List.mem_map.mp hd
    obtain ⟨z11, z12, z13, z14, q⟩ := inner3 k o hc x0 x1 (some (.ol es3)) x3 x4 (some (.dat (.tuple [P.d, Q.d]))) (some (.dat (.tuple [lineD l, lineD m]))) x7 y8 (some (.dat (chD (chs p S)))) (some (.dat (earsD S))) y11 y12 y13 y14 x15 x16
    exact ⟨_, _, rfl, q, _, _, _, _, _, rfl⟩) [x0, x1, some (.ol es3), some (.dat p.d), x4, some (.dat (.tuple [P.d, Q.d])), some (.dat (.tuple [lineD l, lineD m])), some (.dat S.d), x8, some (.dat (chD (chs p S))), some (.dat (earsD S)), x11, x12, x13, x14, x15, x16] ⟨_, _, _, _, _, rfl⟩
  refine ⟨es3, some (.dat (.tuple [P.d, Q.d])), some (.dat (.tuple [lineD l, lineD m])), some (.dat S.d), y8, some (.dat (chD (chs p S))), some (.dat (earsD S)), y11, y12, y13, y14, ?_, s3⟩
  have a1 : dIx p.d (.int 0) = some (.tuple [p.a.d, p.b.d]) := rfl
  have a2 := law_choices_eq p S
  have a3 := choices_at_eq k o
  have a4 := heard_eq k o
  have a5 : F__law_twins 10 [.list [chD (chs p S), earsD S], .list [chD (chs p S), earsD S]] = some (.bool true) := twins_yes (n := 9) (list_okP (by simp) (by
    intro d hd
    simp only [List.mem_cons, List.not_mem_nil, or_false] at hd
    rcases hd with rfl | rfl
    · exact ch_okP 6 p S
    · exact ears_okP 7 S))
  have a6 : dIx (lineD m) (.int 0) = some (.int (S.m.headD 0)) ∧ dIx (lineD l) (.int 0) = some (.int (S.l.headD 0)) := by
    subst hS
    obtain ⟨i, t, rfl, _⟩ := line_cons k.x1 o3
    obtain ⟨j, u, rfl, _⟩ := line_cons k.y1 o4
    exact ⟨(ixT0 : dIx (.tuple (.int j :: u.map .int)) (.int 0) = some (.int j)), (ixT0 : dIx (.tuple (.int i :: t.map .int)) (.int 0) = some (.int i))⟩
  unfold L_law_1
  refine (sSeq_nx (ρ1 := [x0, x1, some (.ol es2), some (.dat p.d), x4, some (.dat (.tuple [P.d, Q.d])), x6, x7, x8, x9, x10, x11, x12, x13, x14, x15, x16]) (by simp [callD, callB, callO, args0, sSeq, sIf, sRet, sRetN, sRetO, sDrop, sAsg, sPar, sNx, sBk, sCt, sNever, eVar, eC, e1, e2, eIf, asB, eAnd, eOr, tAndM, tOrM, dNot, tNotB, aNil, aCons, mkT_ok, mkL_ok, gName, gsNil, gsCons, gTup, gLst, eChain, oNone, oSome, eSl, dIsi, dIsi2, tYesM, eBor, isOl, a1, q1, q2])).trans ?_
  refine (sSeq_nx (ρ1 := [x0, x1, some (.ol es3), some (.dat p.d), x4, some (.dat (.tuple [P.d, Q.d])), some (.dat (.tuple [lineD l, lineD m])), x7, x8, x9, x10, x11, x12, x13, x14, x15, x16]) (by simp only [sAsg, VS.e1, aCons, aNil, q3]; simp [fTuple, gName])).trans ?_
  refine (sSeq_nx (ρ1 := [x0, x1, some (.ol es3), some (.dat p.d), x4, some (.dat (.tuple [P.d, Q.d])), some (.dat (.tuple [lineD l, lineD m])), some (.dat S.d), x8, x9, x10, x11, x12, x13, x14, x15, x16]) (by simp [callD, callB, callO, args0, sSeq, sIf, sRet, sRetN, sRetO, sDrop, sAsg, sPar, sNx, sBk, sCt, sNever, eVar, eC, e1, e2, eIf, asB, eAnd, eOr, tAndM, tOrM, dNot, tNotB, aNil, aCons, mkT_ok, mkL_ok, gName, gsNil, gsCons, gTup, gLst, eChain, oNone, oSome, eSl, dIsi, dIsi2, tYesM, eS])).trans ?_
  refine (sSeq_nx (ρ1 := [x0, x1, some (.ol es3), some (.dat p.d), x4, some (.dat (.tuple [P.d, Q.d])), some (.dat (.tuple [lineD l, lineD m])), some (.dat S.d), x8, some (.dat (chD (chs p S))), some (.dat (earsD S)), x11, x12, x13, x14, x15, x16]) (by simp [callD, callB, callO, args0, sSeq, sIf, sRet, sRetN, sRetO, sDrop, sAsg, sPar, sNx, sBk, sCt, sNever, eVar, eC, e1, e2, eIf, asB, eAnd, eOr, tAndM, tOrM, dNot, tNotB, aNil, aCons, mkT_ok, mkL_ok, gName, gsNil, gsCons, gTup, gLst, eChain, oNone, oSome, eSl, dIsi, dIsi2, tYesM, a2, a6.1, a6.2, earsD])).trans ?_
  refine (sSeq_nx (by simp [callD, callB, callO, args0, sSeq, sIf, sRet, sRetN, sRetO, sDrop, sAsg, sPar, sNx, sBk, sCt, sNever, eVar, eC, e1, e2, eIf, asB, eAnd, eOr, tAndM, tOrM, dNot, tNotB, aNil, aCons, mkT_ok, mkL_ok, gName, gsNil, gsCons, gTup, gLst, eChain, oNone, oSome, eSl, dIsi, dIsi2, tYesM, a3, a4, a5]; rfl)).trans ?_
  exact forS_of (ds := (chs p S).map prD) (by simp [callD, callB, callO, args0, sSeq, sIf, sRet, sRetN, sRetO, sDrop, sAsg, sPar, sNx, sBk, sCt, sNever, eVar, eC, e1, e2, eIf, asB, eAnd, eOr, tAndM, tOrM, dNot, tNotB, aNil, aCons, mkT_ok, mkL_ok, gName, gsNil, gsCons, gTup, gLst, eChain, oNone, oSome, eSl, dIsi, dIsi2, tYesM, chD]) g1
theorem body2 (script : List Int) {n : Int} (h0 : 0 ≤ n) (x0 x1 x2 x3 x4 x5 x6 x7 x8 x9 x10 x11 x12 x13 x14 x15 x16 : Option SV) (h15 : nol x15) (h16 : nol x16) : ∃ (y2 y3 y4 y5 y6 y7 y8 y9 y10 y11 y12 y13 y14 : Option SV),
    L_law_2 [some (.dat (scrD script)), some (.dat (.int n)), x2, x3, x4, x5, x6, x7, x8, x9, x10, x11, x12, x13, x14, x15, x16] = some (.nx, [some (.dat (scrD script)), some (.dat (.int n)), y2, y3, y4, y5, y6, y7, y8, y9, y10, y11, y12, y13, y14, x15, x16]) := by
  obtain ⟨es0, a1, s0⟩ := spring_ok script n h0
  obtain ⟨p, es1, a2, sh, sz, s1⟩ := plan_ok s0 10000 (by decide)
  have k : p.Ok := ⟨sh, sz⟩
  obtain ⟨ρ', g1, es2, y4, y5, y6, y7, y8, y9, y10, y11, y12, y13, y14, s2, rfl⟩ := for_inv (t := gName 4) (b := L_law_1) (fun ρ => ∃ (es : List D) (y4 y5 y6 y7 y8 y9 y10 y11 y12 y13 y14 : Option SV), Spr es ∧ ρ = [some (.dat (scrD script)), some (.dat (.int n)), some (.ol es), some (.dat p.d), y4, y5, y6, y7, y8, y9, y10, y11, y12, y13, y14, x15, x16]) (ds := rgD 0 20) (by
    rintro d hd ρ ⟨es, y4, y5, y6, y7, y8, y9, y10, y11, y12, y13, y14, s, rfl⟩
    obtain ⟨es', z5, z6, z7, z8, z9, z10, z11, z12, z13, z14, q, s'⟩ := body1 k (some (.dat (scrD script))) (some (.dat (.int n))) x2 x3 (some (.dat d)) y5 y6 y7 y8 y9 y10 y11 y12 y13 y14 x15 x16 h15 h16 s
    exact ⟨_, _, rfl, q, es', _, _, _, _, _, _, _, _, _, _, _, s', rfl⟩) [some (.dat (scrD script)), some (.dat (.int n)), some (.ol es1), some (.dat p.d), x4, x5, x6, x7, x8, x9, x10, x11, x12, x13, x14, x15, x16] ⟨es1, _, _, _, _, _, _, _, _, _, _, _, s1, rfl⟩
  refine ⟨some (.ol es2), some (.dat p.d), y4, y5, y6, y7, y8, y9, y10, y11, y12, y13, y14, ?_⟩
  · unfold L_law_2
    refine (sSeq_nx (ρ1 := [some (.dat (scrD script)), some (.dat (.int n)), some (.ol es0), x3, x4, x5, x6, x7, x8, x9, x10, x11, x12, x13, x14, x15, x16]) (by simp [sOwnC, callD, callB, callO, args0, sSeq, sIf, sRet, sRetN, sRetO, sDrop, sAsg, sPar, sNx, sBk, sCt, sNever, eVar, eC, e1, e2, eIf, asB, eAnd, eOr, tAndM, tOrM, dNot, tNotB, aNil, aCons, mkT_ok, mkL_ok, gName, gsNil, gsCons, gTup, gLst, eChain, oNone, oSome, eSl, dIsi, dIsi2, tYesM, a1])).trans ?_
    refine (sSeq_nx (ρ1 := [some (.dat (scrD script)), some (.dat (.int n)), some (.ol es1), some (.dat p.d), x4, x5, x6, x7, x8, x9, x10, x11, x12, x13, x14, x15, x16]) (by simp [eBor, isOl, callD, callB, callO, args0, sSeq, sIf, sRet, sRetN, sRetO, sDrop, sAsg, sPar, sNx, sBk, sCt, sNever, eVar, eC, e1, e2, eIf, asB, eAnd, eOr, tAndM, tOrM, dNot, tNotB, aNil, aCons, mkT_ok, mkL_ok, gName, gsNil, gsCons, gTup, gLst, eChain, oNone, oSome, eSl, dIsi, dIsi2, tYesM, a2])).trans ?_
    exact forS_of (ds := rgD 0 20) rfl g1
theorem law_true (script : List Int) : F_law [scrD script] = some (.bool true) := by
  obtain ⟨ρ', q, x0, x1, x2, x3, x4, x5, x6, x7, x8, x9, x10, x11, x12, x13, x14, x15, x16, h15, h16, rfl⟩ := for_inv (t := gName 1) (b := L_law_2) (fun ρ => ∃ x0 x1 x2 x3 x4 x5 x6 x7 x8 x9 x10 x11 x12 x13 x14 x15 x16, nol x15 ∧ nol x16 ∧ ρ = [some (.dat (scrD script)), x1, x2, x3, x4, x5, x6, x7, x8, x9, x10, x11, x12, x13, x14, x15, x16]) (ds := rgD 0 ((if (7 : Int) < (script.length : Int) then 7 else (script.length : Int)) + 1).toNat) (by
    rintro d hd ρ ⟨x0, x1, x2, x3, x4, x5, x6, x7, x8, x9, x10, x11, x12, x13, x14, x15, x16, h15, h16, rfl⟩
    obtain ⟨i, hi, rfl⟩ := rg_mem hd
    obtain ⟨y2, y3, y4, y5, y6, y7, y8, y9, y10, y11, y12, y13, y14, q⟩ := body2 script (n := 0 + (i : Int)) (by omega) x0 x1 x2 x3 x4 x5 x6 x7 x8 x9 x10 x11 x12 x13 x14 x15 x16 h15 h16
    exact ⟨_, _, rfl, q, none, _, _, _, _, _, _, _, _, _, _, _, _, _, _, _, _, h15, h16, rfl⟩) (args0 17 [scrD script]) ⟨none, none, none, none, none, none, none, none, none, none, none, none, none, none, none, none, none, nol_none, nol_none, rfl⟩
  have k1 := turns_ok script 7 (by decide) (by decide)
  have main : B_law (args0 17 [scrD script]) = some (.rt (.bool true), [some (.dat (scrD script)), x1, x2, x3, x4, x5, x6, x7, x8, x9, x10, x11, x12, x13, x14, x15, x16]) := by
    unfold B_law
    refine (sSeq_nx (forS_of (ρ1 := args0 17 [scrD script]) (by simp [callD, callB, callO, args0, sSeq, sIf, sRet, sRetN, sRetO, sDrop, sAsg, sPar, sNx, sBk, sCt, sNever, eVar, eC, e1, e2, eIf, asB, eAnd, eOr, tAndM, tOrM, dNot, tNotB, aNil, aCons, mkT_ok, mkL_ok, gName, gsNil, gsCons, gTup, gLst, eChain, oNone, oSome, eSl, dIsi, dIsi2, tYesM, scrD, k1]) q)).trans ?_
    simp [callD, callB, callO, args0, sSeq, sIf, sRet, sRetN, sRetO, sDrop, sAsg, sPar, sNx, sBk, sCt, sNever, eVar, eC, e1, e2, eIf, asB, eAnd, eOr, tAndM, tOrM, dNot, tNotB, aNil, aCons, mkT_ok, mkL_ok, gName, gsNil, gsCons, gTup, gLst, eChain, oNone, oSome, eSl, dIsi, dIsi2, tYesM]
  simp [F_law, callD, main]
end VS

open PySem PySem.W PyProof.Rows
set_option maxHeartbeats 0 in
theorem PySem.Challenge.cw_lagtalk_k03_stands_of_any_kind_holds : PySem.Challenge.rw_lagtalk_k03_stands_of_any_kind.Holds := by
  w_on; o_law; k_head; (case hw => w_witness2)
  k_fill
  refine VS.walk_end (l := PySem.Challenge.rw_lagtalk_k03_stands_of_any_kind) (n := 63) (k := 12) (x := "script") (F := VS.F_law) (st := VS.s_law) rfl (by decide) rfl ⟨rfl, by decide, by decide⟩ VS.law_true (fun w h Y => PySem.W.kIn_of Y) ?L
  case L =>
    intro w mg fa h KX G hmg
    have z_abs : mg "abs" = none := by (refine PySem.W.mg_none_of KX G ?a; (case a => (try unfold L2.KOf); k_is))
    have z_all : mg "all" = none := by (refine PySem.W.mg_none_of KX G ?a; (case a => (try unfold L2.KOf); k_is))
    have z_bool : mg "bool" = none := by (refine PySem.W.mg_none_of KX G ?a; (case a => (try unfold L2.KOf); k_is))
    have z_int : mg "int" = none := by (refine PySem.W.mg_none_of KX G ?a; (case a => (try unfold L2.KOf); k_is))
    have z_isinstance : mg "isinstance" = none := by (refine PySem.W.mg_none_of KX G ?a; (case a => (try unfold L2.KOf); k_is))
    have z_len : mg "len" = none := by (refine PySem.W.mg_none_of KX G ?a; (case a => (try unfold L2.KOf); k_is))
    have z_list : mg "list" = none := by (refine PySem.W.mg_none_of KX G ?a; (case a => (try unfold L2.KOf); k_is))
    have z_min : mg "min" = none := by (refine PySem.W.mg_none_of KX G ?a; (case a => (try unfold L2.KOf); k_is))
    have z_range : mg "range" = none := by (refine PySem.W.mg_none_of KX G ?a; (case a => (try unfold L2.KOf); k_is))
    have z_str : mg "str" = none := by (refine PySem.W.mg_none_of KX G ?a; (case a => (try unfold L2.KOf); k_is))
    have z_tuple : mg "tuple" = none := by (refine PySem.W.mg_none_of KX G ?a; (case a => (try unfold L2.KOf); k_is))
    have z_zip : mg "zip" = none := by (refine PySem.W.mg_none_of KX G ?a; (case a => (try unfold L2.KOf); k_is))
    have c_HEARINGS : VS.GCm (L2.KOf KX) mg "HEARINGS" VS.c_HEARINGS := by (refine' VS.gc_tup [L2.V.str (Str.ofString "none"), L2.V.str (Str.ofString "torn"), L2.V.str (Str.ofString "whole")] KX G (fun _ => .cons (.str _) (.cons (.str _) (.cons (.str _) (.nil)))) ?a ?l ?v ?z; (case a => (try unfold L2.KOf); k_is); (case l => (try unfold L2.KOf); k_is); (case v => exact .cons ⟨_, rfl⟩ (.cons ⟨_, rfl⟩ (.cons ⟨_, rfl⟩ (.nil)))); (case z => decide))
    have c_MOST_SIZE : VS.GCm (L2.KOf KX) mg "MOST_SIZE" VS.c_MOST_SIZE := by (refine' VS.gc_int KX G ?a; (case a => (try unfold L2.KOf); k_is))
    have c_QUIET : VS.GCm (L2.KOf KX) mg "QUIET" VS.c_QUIET := by (refine' VS.gc_str KX G ?a; (case a => (try unfold L2.KOf); k_is))
    have c_SPEAKS : VS.GCm (L2.KOf KX) mg "SPEAKS" VS.c_SPEAKS := by (refine' VS.gc_str KX G ?a; (case a => (try unfold L2.KOf); k_is))
    have Z : VS.Glob (L2.KOf KX) mg := ⟨z_abs, z_all, z_bool, z_int, z_isinstance, z_len, z_list, z_min, z_range, z_str, z_tuple, z_zip, c_HEARINGS, c_MOST_SIZE, c_QUIET, c_SPEAKS⟩
    have t_is_within : VS.Df (L2.KOf KX) mg "is_within" "is_within" VS.s_is_within VS.p_is_within := by (refine' VS.df_mk KX G VS.bi_is_within ?a ?l ?c ?k; (case a => (try unfold L2.KOf); k_is); (case l => (try unfold L2.KOf); k_is); (case c => (try unfold L2.KOf); k_is); (case k => (try unfold L2.KOf); k_is))
    have t_is_span : VS.Df (L2.KOf KX) mg "is_span" "is_span" VS.s_is_span VS.p_is_span := by (refine' VS.df_mk KX G VS.bi_is_span ?a ?l ?c ?k; (case a => (try unfold L2.KOf); k_is); (case l => (try unfold L2.KOf); k_is); (case c => (try unfold L2.KOf); k_is); (case k => (try unfold L2.KOf); k_is))
    have t_is_habit : VS.Df (L2.KOf KX) mg "is_habit" "is_habit" VS.s_is_habit VS.p_is_habit := by (refine' VS.df_mk KX G VS.bi_is_habit ?a ?l ?c ?k; (case a => (try unfold L2.KOf); k_is); (case l => (try unfold L2.KOf); k_is); (case c => (try unfold L2.KOf); k_is); (case k => (try unfold L2.KOf); k_is))
    have t_size_of : VS.Df (L2.KOf KX) mg "size_of" "size_of" VS.s_size_of VS.p_size_of := by (refine' VS.df_mk KX G VS.bi_size_of ?a ?l ?c ?k; (case a => (try unfold L2.KOf); k_is); (case l => (try unfold L2.KOf); k_is); (case c => (try unfold L2.KOf); k_is); (case k => (try unfold L2.KOf); k_is))
    have t_is_plan : VS.Df (L2.KOf KX) mg "is_plan" "is_plan" VS.s_is_plan VS.p_is_plan := by (refine' VS.df_mk KX G VS.bi_is_plan ?a ?l ?c ?k; (case a => (try unfold L2.KOf); k_is); (case l => (try unfold L2.KOf); k_is); (case c => (try unfold L2.KOf); k_is); (case k => (try unfold L2.KOf); k_is))
    have t_look_at_plan : VS.Df (L2.KOf KX) mg "look_at_plan" "look_at_plan" VS.s_look_at_plan VS.p_look_at_plan := by (refine' VS.df_mk KX G VS.bi_look_at_plan ?a ?l ?c ?k; (case a => (try unfold L2.KOf); k_is); (case l => (try unfold L2.KOf); k_is); (case c => (try unfold L2.KOf); k_is); (case k => (try unfold L2.KOf); k_is))
    have t_is_part : VS.Df (L2.KOf KX) mg "is_part" "is_part" VS.s_is_part VS.p_is_part := by (refine' VS.df_mk KX G VS.bi_is_part ?a ?l ?c ?k; (case a => (try unfold L2.KOf); k_is); (case l => (try unfold L2.KOf); k_is); (case c => (try unfold L2.KOf); k_is); (case k => (try unfold L2.KOf); k_is))
    have t_is_line : VS.Df (L2.KOf KX) mg "is_line" "is_line" VS.s_is_line VS.p_is_line := by (refine' VS.df_mk KX G VS.bi_is_line ?a ?l ?c ?k; (case a => (try unfold L2.KOf); k_is); (case l => (try unfold L2.KOf); k_is); (case c => (try unfold L2.KOf); k_is); (case k => (try unfold L2.KOf); k_is))
    have t_fits : VS.Df (L2.KOf KX) mg "fits" "fits" VS.s_fits VS.p_fits := by (refine' VS.df_mk KX G VS.bi_fits ?a ?l ?c ?k; (case a => (try unfold L2.KOf); k_is); (case l => (try unfold L2.KOf); k_is); (case c => (try unfold L2.KOf); k_is); (case k => (try unfold L2.KOf); k_is))
    have t_look_at_stand : VS.Df (L2.KOf KX) mg "look_at_stand" "look_at_stand" VS.s_look_at_stand VS.p_look_at_stand := by (refine' VS.df_mk KX G VS.bi_look_at_stand ?a ?l ?c ?k; (case a => (try unfold L2.KOf); k_is); (case l => (try unfold L2.KOf); k_is); (case c => (try unfold L2.KOf); k_is); (case k => (try unfold L2.KOf); k_is))
    have t_ways_of : VS.Df (L2.KOf KX) mg "ways_of" "ways_of" VS.s_ways_of VS.p_ways_of := by (refine' VS.df_mk KX G VS.bi_ways_of ?a ?l ?c ?k; (case a => (try unfold L2.KOf); k_is); (case l => (try unfold L2.KOf); k_is); (case c => (try unfold L2.KOf); k_is); (case k => (try unfold L2.KOf); k_is))
    have t_choices_of : VS.Df (L2.KOf KX) mg "choices_of" "choices_of" VS.s_choices_of VS.p_choices_of := by (refine' VS.df_mk KX G VS.bi_choices_of ?a ?l ?c ?k; (case a => (try unfold L2.KOf); k_is); (case l => (try unfold L2.KOf); k_is); (case c => (try unfold L2.KOf); k_is); (case k => (try unfold L2.KOf); k_is))
    have t_sign_of : VS.Df (L2.KOf KX) mg "sign_of" "sign_of" VS.s_sign_of VS.p_sign_of := by (refine' VS.df_mk KX G VS.bi_sign_of ?a ?l ?c ?k; (case a => (try unfold L2.KOf); k_is); (case l => (try unfold L2.KOf); k_is); (case c => (try unfold L2.KOf); k_is); (case k => (try unfold L2.KOf); k_is))
    have t_signs_of : VS.Df (L2.KOf KX) mg "signs_of" "signs_of" VS.s_signs_of VS.p_signs_of := by (refine' VS.df_mk KX G VS.bi_signs_of ?a ?l ?c ?k; (case a => (try unfold L2.KOf); k_is); (case l => (try unfold L2.KOf); k_is); (case c => (try unfold L2.KOf); k_is); (case k => (try unfold L2.KOf); k_is))
    have t_heard_by : VS.Df (L2.KOf KX) mg "heard_by" "heard_by" VS.s_heard_by VS.p_heard_by := by (refine' VS.df_mk KX G VS.bi_heard_by ?a ?l ?c ?k; (case a => (try unfold L2.KOf); k_is); (case l => (try unfold L2.KOf); k_is); (case c => (try unfold L2.KOf); k_is); (case k => (try unfold L2.KOf); k_is))
    have t_hearing_of : VS.Df (L2.KOf KX) mg "hearing_of" "hearing_of" VS.s_hearing_of VS.p_hearing_of := by (refine' VS.df_mk KX G VS.bi_hearing_of ?a ?l ?c ?k; (case a => (try unfold L2.KOf); k_is); (case l => (try unfold L2.KOf); k_is); (case c => (try unfold L2.KOf); k_is); (case k => (try unfold L2.KOf); k_is))
    have t_is_whole : VS.Df (L2.KOf KX) mg "is_whole" "is_whole" VS.s_is_whole VS.p_is_whole := by (refine' VS.df_mk KX G VS.bi_is_whole ?a ?l ?c ?k; (case a => (try unfold L2.KOf); k_is); (case l => (try unfold L2.KOf); k_is); (case c => (try unfold L2.KOf); k_is); (case k => (try unfold L2.KOf); k_is))
    have t_talker_behind : VS.Df (L2.KOf KX) mg "talker_behind" "talker_behind" VS.s_talker_behind VS.p_talker_behind := by (refine' VS.df_mk KX G VS.bi_talker_behind ?a ?l ?c ?k; (case a => (try unfold L2.KOf); k_is); (case l => (try unfold L2.KOf); k_is); (case c => (try unfold L2.KOf); k_is); (case k => (try unfold L2.KOf); k_is))
    have t_behind : VS.Df (L2.KOf KX) mg "behind" "behind" VS.s_behind VS.p_behind := by (refine' VS.df_mk KX G VS.bi_behind ?a ?l ?c ?k; (case a => (try unfold L2.KOf); k_is); (case l => (try unfold L2.KOf); k_is); (case c => (try unfold L2.KOf); k_is); (case k => (try unfold L2.KOf); k_is))
    have t_whole_by : VS.Df (L2.KOf KX) mg "whole_by" "whole_by" VS.s_whole_by VS.p_whole_by := by (refine' VS.df_mk KX G VS.bi_whole_by ?a ?l ?c ?k; (case a => (try unfold L2.KOf); k_is); (case l => (try unfold L2.KOf); k_is); (case c => (try unfold L2.KOf); k_is); (case k => (try unfold L2.KOf); k_is))
    have t_is_like : VS.Df (L2.KOf KX) mg "is_like" "is_like" VS.s_is_like VS.p_is_like := by (refine' VS.df_mk KX G VS.bi_is_like ?a ?l ?c ?k; (case a => (try unfold L2.KOf); k_is); (case l => (try unfold L2.KOf); k_is); (case c => (try unfold L2.KOf); k_is); (case k => (try unfold L2.KOf); k_is))
    have t_look_at_choice : VS.Df (L2.KOf KX) mg "look_at_choice" "look_at_choice" VS.s_look_at_choice VS.p_look_at_choice := by (refine' VS.df_mk KX G VS.bi_look_at_choice ?a ?l ?c ?k; (case a => (try unfold L2.KOf); k_is); (case l => (try unfold L2.KOf); k_is); (case c => (try unfold L2.KOf); k_is); (case k => (try unfold L2.KOf); k_is))
    have t_choices_at : VS.Df (L2.KOf KX) mg "choices_at" "choices_at" VS.s_choices_at VS.p_choices_at := by (refine' VS.df_mk KX G VS.bi_choices_at ?a ?l ?c ?k; (case a => (try unfold L2.KOf); k_is); (case l => (try unfold L2.KOf); k_is); (case c => (try unfold L2.KOf); k_is); (case k => (try unfold L2.KOf); k_is))
    have t_said : VS.Df (L2.KOf KX) mg "said" "said" VS.s_said VS.p_said := by (refine' VS.df_mk KX G VS.bi_said ?a ?l ?c ?k; (case a => (try unfold L2.KOf); k_is); (case l => (try unfold L2.KOf); k_is); (case c => (try unfold L2.KOf); k_is); (case k => (try unfold L2.KOf); k_is))
    have t_heard : VS.Df (L2.KOf KX) mg "heard" "heard" VS.s_heard VS.p_heard := by (refine' VS.df_mk KX G VS.bi_heard ?a ?l ?c ?k; (case a => (try unfold L2.KOf); k_is); (case l => (try unfold L2.KOf); k_is); (case c => (try unfold L2.KOf); k_is); (case k => (try unfold L2.KOf); k_is))
    have t_after : VS.Df (L2.KOf KX) mg "after" "after" VS.s_after VS.p_after := by (refine' VS.df_mk KX G VS.bi_after ?a ?l ?c ?k; (case a => (try unfold L2.KOf); k_is); (case l => (try unfold L2.KOf); k_is); (case c => (try unfold L2.KOf); k_is); (case k => (try unfold L2.KOf); k_is))
    have t_whole : VS.Df (L2.KOf KX) mg "whole" "whole" VS.s_whole VS.p_whole := by (refine' VS.df_mk KX G VS.bi_whole ?a ?l ?c ?k; (case a => (try unfold L2.KOf); k_is); (case l => (try unfold L2.KOf); k_is); (case c => (try unfold L2.KOf); k_is); (case k => (try unfold L2.KOf); k_is))
    have t__law_spring : VS.Df (L2.KOf KX) mg "_law_spring" "_law_spring" VS.s__law_spring VS.p__law_spring := by (refine' VS.df_mk KX G VS.bi__law_spring ?a ?l ?c ?k; (case a => (try unfold L2.KOf); k_is); (case l => (try unfold L2.KOf); k_is); (case c => (try unfold L2.KOf); k_is); (case k => (try unfold L2.KOf); k_is))
    have t__law_pick : VS.Df (L2.KOf KX) mg "_law_pick" "_law_pick" VS.s__law_pick VS.p__law_pick := by (refine' VS.df_mk KX G VS.bi__law_pick ?a ?l ?c ?k; (case a => (try unfold L2.KOf); k_is); (case l => (try unfold L2.KOf); k_is); (case c => (try unfold L2.KOf); k_is); (case k => (try unfold L2.KOf); k_is))
    have t__law_kind : VS.Df (L2.KOf KX) mg "_law_kind" "_law_kind" VS.s__law_kind VS.p__law_kind := by (refine' VS.df_mk KX G VS.bi__law_kind ?a ?l ?c ?k; (case a => (try unfold L2.KOf); k_is); (case l => (try unfold L2.KOf); k_is); (case c => (try unfold L2.KOf); k_is); (case k => (try unfold L2.KOf); k_is))
    have t__law_twins : VS.Df (L2.KOf KX) mg "_law_twins" "_law_twins" VS.s__law_twins VS.p__law_twins := by (refine' VS.df_mk KX G VS.bi__law_twins ?a ?l ?c ?k; (case a => (try unfold L2.KOf); k_is); (case l => (try unfold L2.KOf); k_is); (case c => (try unfold L2.KOf); k_is); (case k => (try unfold L2.KOf); k_is))
    have t__law_habit : VS.Df (L2.KOf KX) mg "_law_habit" "_law_habit" VS.s__law_habit VS.p__law_habit := by (refine' VS.df_mk KX G VS.bi__law_habit ?a ?l ?c ?k; (case a => (try unfold L2.KOf); k_is); (case l => (try unfold L2.KOf); k_is); (case c => (try unfold L2.KOf); k_is); (case k => (try unfold L2.KOf); k_is))
    have t__law_size : VS.Df (L2.KOf KX) mg "_law_size" "_law_size" VS.s__law_size VS.p__law_size := by (refine' VS.df_mk KX G VS.bi__law_size ?a ?l ?c ?k; (case a => (try unfold L2.KOf); k_is); (case l => (try unfold L2.KOf); k_is); (case c => (try unfold L2.KOf); k_is); (case k => (try unfold L2.KOf); k_is))
    have t__law_plan : VS.Df (L2.KOf KX) mg "_law_plan" "_law_plan" VS.s__law_plan VS.p__law_plan := by (refine' VS.df_mk KX G VS.bi__law_plan ?a ?l ?c ?k; (case a => (try unfold L2.KOf); k_is); (case l => (try unfold L2.KOf); k_is); (case c => (try unfold L2.KOf); k_is); (case k => (try unfold L2.KOf); k_is))
    have t__law_options : VS.Df (L2.KOf KX) mg "_law_options" "_law_options" VS.s__law_options VS.p__law_options := by (refine' VS.df_mk KX G VS.bi__law_options ?a ?l ?c ?k; (case a => (try unfold L2.KOf); k_is); (case l => (try unfold L2.KOf); k_is); (case c => (try unfold L2.KOf); k_is); (case k => (try unfold L2.KOf); k_is))
    have t__law_choices : VS.Df (L2.KOf KX) mg "_law_choices" "_law_choices" VS.s__law_choices VS.p__law_choices := by (refine' VS.df_mk KX G VS.bi__law_choices ?a ?l ?c ?k; (case a => (try unfold L2.KOf); k_is); (case l => (try unfold L2.KOf); k_is); (case c => (try unfold L2.KOf); k_is); (case k => (try unfold L2.KOf); k_is))
    have t__law_voice : VS.Df (L2.KOf KX) mg "_law_voice" "_law_voice" VS.s__law_voice VS.p__law_voice := by (refine' VS.df_mk KX G VS.bi__law_voice ?a ?l ?c ?k; (case a => (try unfold L2.KOf); k_is); (case l => (try unfold L2.KOf); k_is); (case c => (try unfold L2.KOf); k_is); (case k => (try unfold L2.KOf); k_is))
    have t__law_led : VS.Df (L2.KOf KX) mg "_law_led" "_law_led" VS.s__law_led VS.p__law_led := by (refine' VS.df_mk KX G VS.bi__law_led ?a ?l ?c ?k; (case a => (try unfold L2.KOf); k_is); (case l => (try unfold L2.KOf); k_is); (case c => (try unfold L2.KOf); k_is); (case k => (try unfold L2.KOf); k_is))
    have t__law_tick : VS.Df (L2.KOf KX) mg "_law_tick" "_law_tick" VS.s__law_tick VS.p__law_tick := by (refine' VS.df_mk KX G VS.bi__law_tick ?a ?l ?c ?k; (case a => (try unfold L2.KOf); k_is); (case l => (try unfold L2.KOf); k_is); (case c => (try unfold L2.KOf); k_is); (case k => (try unfold L2.KOf); k_is))
    have t__law_any_part : VS.Df (L2.KOf KX) mg "_law_any_part" "_law_any_part" VS.s__law_any_part VS.p__law_any_part := by (refine' VS.df_mk KX G VS.bi__law_any_part ?a ?l ?c ?k; (case a => (try unfold L2.KOf); k_is); (case l => (try unfold L2.KOf); k_is); (case c => (try unfold L2.KOf); k_is); (case k => (try unfold L2.KOf); k_is))
    have T : VS.Tops (L2.KOf KX) mg := ⟨Z, t_is_within, t_is_span, t_is_habit, t_size_of, t_is_plan, t_look_at_plan, t_is_part, t_is_line, t_fits, t_look_at_stand, t_ways_of, t_choices_of, t_sign_of, t_signs_of, t_heard_by, t_hearing_of, t_is_whole, t_talker_behind, t_behind, t_whole_by, t_is_like, t_look_at_choice, t_choices_at, t_said, t_heard, t_after, t_whole, t__law_spring, t__law_pick, t__law_kind, t__law_twins, t__law_habit, t__law_size, t__law_plan, t__law_options, t__law_choices, t__law_voice, t__law_led, t__law_tick, t__law_any_part⟩
    refine' VS.law_mk (st := VS.s_law) KX G hmg VS.bi_law ?a ?l ?c ?k (fun fd F base => VS.all_ok T F); (case a => (try unfold L2.KOf); k_is); (case l => (try unfold L2.KOf); k_is); (case c => (try unfold L2.KOf); k_is); (case k => (try unfold L2.KOf); k_is)
